/- What functions of the program compute, each as a plain function, and that they do. Conditions: as each theorem states them. -/
import Derived.Test.YtkofpnbacgccnaaZkF0
namespace Go.Proofs.Ytkofpnbacgccnaa.Zk
open Go Go.RowKit Go.IntWalk Go.Proofs
set_option linter.unusedVariables false
set_option linter.unusedSimpArgs false
set_option maxRecDepth 100000
def laws_eqMemberS.l0 (x0 : List Member) (x1 : List Member) : Nat → Int → Option (Bool ⊕ Unit)
  | 0, _ => none
  | k + 1, a458 => (bif (decide (a458 < (x0.length : Int))) then (chk (idxOk a458 x0.length) (chk (idxOk a458 x1.length) ((laws_eqMember.f k (gt x0 a458) (gt x1 a458)).bind fun t474 => (bif !t474 then some (.inl false) else laws_eqMemberS.l0 x0 x1 k (wrap64 (a458 + 1)))))) else some (.inr ()))
theorem laws_eqMemberS.l0_z (x0 : List Member) (x1 : List Member) (a458 : Int) : laws_eqMemberS.l0 x0 x1 0 a458 = none := rfl
theorem laws_eqMemberS.l0_s (x0 : List Member) (x1 : List Member) (k : Nat) (a458 : Int) : laws_eqMemberS.l0 x0 x1 (k + 1) a458 = (bif (decide (a458 < (x0.length : Int))) then (chk (idxOk a458 x0.length) (chk (idxOk a458 x1.length) ((laws_eqMember.f k (gt x0 a458) (gt x1 a458)).bind fun t474 => (bif !t474 then some (.inl false) else laws_eqMemberS.l0 x0 x1 k (wrap64 (a458 + 1)))))) else some (.inr ())) := rfl
def laws_eqMemberS.f (k : Nat) (x0 : List Member) (x1 : List Member) : Option Bool := (bif ((x0.length : Int) != (x1.length : Int)) then some false else ((laws_eqMemberS.l0 x0 x1 k 0).bind fun o448 => thn o448 (fun r => some r) (fun _ => some true)))
theorem laws_eqMemberS.calls {k : Nat} {x0 : List Member} {x1 : List Member} {p0 : Value} {p1 : Value} {w : World} (hp0 : RdS kMember w p0 x0) (hp1 : RdS kMember w p1 x1) {r : Bool} (H : laws_eqMemberS.f k x0 x1 = some r) :
    Calls Try.prog 24 ([p0, p1] : List Value).toArray w (fun e w_ => ∃ v, e = .returned v ∧ v = (.bool r) ∧ Mem w [] w_ []) := by
  have HM := Mem.start w
  refine calls_run (N := 27) Try.func24 rfl rfl rfl rfl ?_
  unfold laws_eqMemberS.f at H
  refine run_seq ?_
  refine run_region rfl ?_
  refine ops_ex rfl (guard_none rfl) rfl rfl (ex_assign rfl rfl) ?_
  refine ops_nil ?_
  refine at_then ?_
  refine run_seq ?_
  refine run_seq ?_
  refine run_region rfl ?_
  refine ops_ex rfl (guard_none rfl) rfl rfl (ex_move rfl rfl) ?_
  refine ops_ex rfl (guard_none rfl) rfl rfl (ex_len (d := kMember) (xs := x0) rfl rfl Try.underlying31 hp0) ?_
  refine ops_ex rfl (guard_none rfl) rfl rfl (ex_move rfl rfl) ?_
  refine ops_ex rfl (guard_none rfl) rfl rfl (ex_len (d := kMember) (xs := x1) rfl rfl Try.underlying31 hp1) ?_
  refine ops_ex rfl (guard_none rfl) rfl rfl (ex_neq rfl rfl rfl) ?_
  refine ops_nil ?_
  refine at_then ?_
  refine run_cond (b := ((x0.length : Int) != (x1.length : Int))) rfl (fun hb422 => ?_) (fun hb422 => ?_)
  · replace H := cond_t hb422 H
    refine run_seq ?_
    refine run_region rfl ?_
    refine ops_ex rfl (guard_none rfl) rfl rfl (ex_assign rfl rfl) ?_
    refine ops_nil ?_
    refine at_then ?_
    refine run_ret ?_
    refine at_then_ret ?_
    have hR := Option.some.inj H
    subst hR
    exact at_ret1 rfl rfl ⟨_, rfl, rfl, HM⟩
  · replace H := cond_f hb422 H
    refine run_skip ?_
    refine at_then ?_
    obtain ⟨o448, ho449, H⟩ := bind_some H
    refine run_mid (fun ρ_ w_ => Sum.inr () = o448 ∧ ρ_ = [] ∧ Mem w [] w_ []) ?_ ?_
    · skip
      refine run_seq ?_
      refine run_region rfl ?_
      refine ops_ex rfl (guard_none rfl) rfl rfl (ex_assign rfl rfl) ?_
      refine ops_nil ?_
      refine at_then ?_
      refine run_block ?_
      refine run_loop (fun k_ ρ_ w_ => ∃ a458 : Int, laws_eqMemberS.l0 x0 x1 k_ a458 = some o448 ∧ ρ_ = [(0, p0), (1, p1), (5, .int .i64 a458)] ∧ Mem w [] w_ []) k (ρ1 := [(0, p0), (1, p1), (5, .int .i64 0)]) ⟨_, ho449, rfl, HM⟩ (Sub.cons rfl (Sub.cons rfl (Sub.cons rfl Sub.nil))) ?_
      clear HM ho449
      rintro k467 _ w468 ⟨a458, ho449, rfl, HM⟩
      obtain _ | k467 := k467
      · exact nomatch ((laws_eqMemberS.l0_z x0 x1 a458).symm.trans ho449)
      replace ho449 := (laws_eqMemberS.l0_s x0 x1 k467 a458).symm.trans ho449
      refine run_seq ?_
      refine run_seq ?_
      refine run_region rfl ?_
      refine ops_ex rfl (guard_none rfl) rfl rfl (ex_move rfl rfl) ?_
      refine ops_ex rfl (guard_none rfl) rfl rfl (ex_move rfl rfl) ?_
      refine ops_ex rfl (guard_none rfl) rfl rfl (ex_len (d := kMember) (xs := x0) rfl rfl Try.underlying31 hp0) ?_
      refine ops_ex rfl (guard_none rfl) rfl rfl (ex_lss rfl rfl rfl) ?_
      refine ops_nil ?_
      refine at_then ?_
      refine run_cond (b := (decide (a458 < (x0.length : Int)))) rfl (fun hb469 => ?_) (fun hb469 => ?_)
      · replace ho449 := cond_t hb469 ho449
        refine run_skip ?_
        refine at_then ?_
        refine run_seq ?_
        refine run_block ?_
        refine run_seq ?_
        obtain ⟨e470, ho449⟩ := chk_some ho449
        obtain ⟨e472, ho449⟩ := chk_some ho449
        obtain ⟨t474, h475, ho449⟩ := bind_some ho449
        refine run_draw (fun w_ => Mem w [] w_ []) mixed rfl rfl ?_
        replace HM := HM.grow (fr_drew _)
        have hS := Mem.suf (M := []) HM
        refine drw_take (i := 0) (l' := #[true, false, false, false, false, false, false, false, false, false]) rfl (guard_none rfl) rfl rfl (by kernel_rfl) (fun w_ hS_ => (ex_move rfl rfl)) hS ?_
        refine drw_take (i := 1) (l' := #[true, true, false, false, false, false, false, false, false, false]) rfl (guard_none rfl) rfl rfl (by kernel_rfl) (fun w_ hS_ => (ex_move rfl rfl)) hS ?_
        have hc471 : CellsAt _ (sb p0) (so p0 + (a458).toNat * 3) [(.int .i64 ((gt x0 a458).fKey)), (.int .i64 ((gt x0 a458).fRef.fTx)), (.int .i64 ((gt x0 a458).fRef.fAt))] := rd_plain hp0 e470
        refine drw_take (i := 2) (l' := #[true, true, true, false, false, false, false, false, false, false]) rfl (guard_none rfl) rfl rfl (by kernel_rfl) (fun w_ hS_ => (ex_indexAddr (d := kMember) rfl rfl rfl Try.underlying31 tsz94 hp0 (idx_lo e470) (idx_hi e470))) hS ?_
        refine drw_take (i := 3) (l' := #[true, true, true, true, false, false, false, false, false, false]) rfl (guard_none rfl) rfl rfl (by kernel_rfl) (fun w_ hS_ => (ex_loadN (cs := [(.int .i64 ((gt x0 a458).fKey)), (.int .i64 ((gt x0 a458).fRef.fTx)), (.int .i64 ((gt x0 a458).fRef.fAt))]) rfl rfl Try.underlying94 rfl tsz94 rfl ((hS_.at_ hc471).sub 0 3 rfl))) hS ?_
        refine drw_take (i := 4) (l' := #[true, true, true, true, true, false, false, false, false, false]) rfl (guard_none rfl) rfl rfl (by kernel_rfl) (fun w_ hS_ => (ex_move rfl rfl)) hS ?_
        refine drw_take (i := 5) (l' := #[true, true, true, true, true, true, false, false, false, false]) rfl (guard_none rfl) rfl rfl (by kernel_rfl) (fun w_ hS_ => (ex_move rfl rfl)) hS ?_
        have hc473 : CellsAt _ (sb p1) (so p1 + (a458).toNat * 3) [(.int .i64 ((gt x1 a458).fKey)), (.int .i64 ((gt x1 a458).fRef.fTx)), (.int .i64 ((gt x1 a458).fRef.fAt))] := rd_plain hp1 e472
        refine drw_take (i := 6) (l' := #[true, true, true, true, true, true, true, false, false, false]) rfl (guard_none rfl) rfl rfl (by kernel_rfl) (fun w_ hS_ => (ex_indexAddr (d := kMember) rfl rfl rfl Try.underlying31 tsz94 hp1 (idx_lo e472) (idx_hi e472))) hS ?_
        refine drw_take (i := 7) (l' := #[true, true, true, true, true, true, true, true, false, false]) rfl (guard_none rfl) rfl rfl (by kernel_rfl) (fun w_ hS_ => (ex_loadN (cs := [(.int .i64 ((gt x1 a458).fKey)), (.int .i64 ((gt x1 a458).fRef.fTx)), (.int .i64 ((gt x1 a458).fRef.fAt))]) rfl rfl Try.underlying94 rfl tsz94 rfl ((hS_.at_ hc473).sub 0 3 rfl))) hS ?_
        refine drw_one (i := 8) (l' := #[true, true, true, true, true, true, true, true, true, false]) rfl (guard_none rfl) rfl rfl (by kernel_rfl) (does_callk rfl callok63 rfl (laws_eqMember.calls (x0 := (gt x0 a458)) (x1 := (gt x1 a458)) h475)) ?_
        rintro _ w476 ⟨rfl, hn⟩
        replace HM : Mem w [] w476 [] := HM.call hn
        refine ⟨Mem.suf (M := []) HM, ?_⟩
        have hS := Mem.suf (M := []) HM
        refine drw_take (i := 9) (l' := #[true, true, true, true, true, true, true, true, true, true]) rfl (guard_none rfl) rfl rfl (by kernel_rfl) (fun w_ hS_ => (ex_not rfl rfl)) hS ?_
        refine drw_done (by kernel_rfl) ?_
        refine at_then ?_
        refine run_cond (b := !t474) rfl (fun hb477 => ?_) (fun hb477 => ?_)
        · replace ho449 := cond_t hb477 ho449
          refine run_seq ?_
          refine run_region rfl ?_
          refine ops_ex rfl (guard_none rfl) rfl rfl (ex_assign rfl rfl) ?_
          refine ops_nil ?_
          refine at_then ?_
          refine run_ret ?_
          refine at_block_ret ?_
          refine at_then_ret ?_
          refine at_then_ret ?_
          refine at_block_ret ?_
          refine at_then_ret ?_
          have hR := Option.some.inj ho449
          subst hR
          have hT := thn_inl H
          have hR := Option.some.inj hT
          subst hR
          exact at_ret1 rfl rfl ⟨_, rfl, rfl, HM⟩
        · replace ho449 := cond_f hb477 ho449
          refine run_skip ?_
          refine at_block ?_
          refine at_then ?_
          refine run_region rfl ?_
          refine ops_ex rfl (guard_none rfl) rfl rfl (ex_move rfl rfl) ?_
          refine ops_ex rfl (guard_none rfl) rfl rfl (ex_add rfl rfl rfl) ?_
          refine ops_ex rfl (guard_none rfl) rfl rfl (ex_assign rfl rfl) ?_
          refine ops_nil ?_
          exact at_again k467 (ρ1 := [(0, p0), (1, p1), (5, .int .i64 (wrap64 (a458 + 1)))]) (Nat.lt_succ_self _) ⟨_, ho449, rfl, HM⟩ (Sub.cons rfl (Sub.cons rfl (Sub.cons rfl Sub.nil)))
      · replace ho449 := cond_f hb469 ho449
        refine run_exit ?_
        refine at_then_exit ?_
        refine at_then_exit ?_
        refine at_block_exit ?_
        exact at_mid (ρ' := []) ⟨(Option.some.inj ho449), rfl, HM⟩ Sub.nil
    · rintro _ w478 ⟨rfl, rfl, HM⟩
      replace H := (thn_inr H)
      refine run_seq ?_
      refine run_region rfl ?_
      refine ops_ex rfl (guard_none rfl) rfl rfl (ex_assign rfl rfl) ?_
      refine ops_nil ?_
      refine at_then ?_
      refine run_ret ?_
      have hR := Option.some.inj H
      subst hR
      exact at_ret1 rfl rfl ⟨_, rfl, rfl, HM⟩

def laws_FnExactSameMembers.f (k : Nat) (x0 : List Member) (x1 : List Member) : Option Bool := ((laws_szMemberS.f k x0 1048576).bind fun t496 => (bif (decide (t496 < 0)) then some true else ((laws_szMemberS.f k x1 t496).bind fun t501 => (bif (decide (t501 < 0)) then some true else ((laws_toMemberS.f k x0).bind fun t506 => ((laws_toMemberS.f k x1).bind fun t510 => ((spec_SameMembers.f k t506 t510).bind fun t514 => ((laws_toMemberS.f k x0).bind fun t519 => ((laws_toMemberS.f k x1).bind fun t524 => ((impl_SameMembers.f k t519 t524).bind fun t529 => (bif (t529 != t514) then some false else ((laws_toMemberS.f k x0).bind fun t541 => ((laws_eqMemberS.f k t519 t541).bind fun t545 => (bif !t545 then some false else ((laws_toMemberS.f k x1).bind fun t550 => ((laws_eqMemberS.f k t524 t550).bind fun t554 => (bif !t554 then some false else some true)))))))))))))))))
theorem laws_FnExactSameMembers.calls {k : Nat} {x0 : List Member} {x1 : List Member} {p0 : Value} {p1 : Value} {w : World} (hp0 : RdS kMember w p0 x0) (hp1 : RdS kMember w p1 x1) {r : Bool} (H : laws_FnExactSameMembers.f k x0 x1 = some r) :
    Calls Try.prog 6 ([p0, p1] : List Value).toArray w (fun e w_ => ∃ v, e = .returned v ∧ v = (.bool r) ∧ Mem w [] w_ []) := by
  have HM := Mem.start w
  refine calls_run (N := 45) Try.func6 rfl rfl rfl rfl ?_
  unfold laws_FnExactSameMembers.f at H
  refine run_seq ?_
  refine run_region rfl ?_
  refine ops_ex rfl (guard_none rfl) rfl rfl (ex_assign rfl rfl) ?_
  refine ops_nil ?_
  refine at_then ?_
  refine run_seq ?_
  refine run_region rfl ?_
  refine ops_ex rfl (guard_none rfl) rfl rfl (ex_assign rfl rfl) ?_
  refine ops_nil ?_
  refine at_then ?_
  refine run_seq ?_
  obtain ⟨t496, h497, H⟩ := bind_some H
  refine run_region rfl ?_
  refine ops_ex rfl (guard_none rfl) rfl rfl (ex_move rfl rfl) ?_
  refine ops_ex rfl (guard_none rfl) rfl rfl (ex_move rfl rfl) ?_
  refine ops_does rfl (guard_none rfl) rfl rfl (does_callk rfl callok20 rfl (laws_szMemberS.calls (x0 := x0) (x1 := 1048576) (HM.rd hp0) h497)) ?_
  rintro _ w498 ⟨rfl, hn⟩
  replace HM : Mem w [] w498 [] := HM.call hn
  refine ops_ex rfl (guard_none rfl) rfl rfl (ex_assign rfl rfl) ?_
  refine ops_nil ?_
  refine at_then ?_
  refine run_seq ?_
  refine run_seq ?_
  refine run_region rfl ?_
  refine ops_ex rfl (guard_none rfl) rfl rfl (ex_move rfl rfl) ?_
  refine ops_ex rfl (guard_none rfl) rfl rfl (ex_lss rfl rfl rfl) ?_
  refine ops_nil ?_
  refine at_then ?_
  refine run_cond (b := (decide (t496 < 0))) rfl (fun hb500 => ?_) (fun hb500 => ?_)
  · replace H := cond_t hb500 H
    refine run_seq ?_
    refine run_region rfl ?_
    refine ops_ex rfl (guard_none rfl) rfl rfl (ex_assign rfl rfl) ?_
    refine ops_nil ?_
    refine at_then ?_
    refine run_ret ?_
    refine at_then_ret ?_
    have hR := Option.some.inj H
    subst hR
    exact at_ret1 rfl rfl ⟨_, rfl, rfl, HM⟩
  · replace H := cond_f hb500 H
    refine run_skip ?_
    refine at_then ?_
    refine run_seq ?_
    obtain ⟨t501, h502, H⟩ := bind_some H
    refine run_region rfl ?_
    refine ops_ex rfl (guard_none rfl) rfl rfl (ex_move rfl rfl) ?_
    refine ops_ex rfl (guard_none rfl) rfl rfl (ex_move rfl rfl) ?_
    refine ops_does rfl (guard_none rfl) rfl rfl (does_callk rfl callok20 rfl (laws_szMemberS.calls (x0 := x1) (x1 := t496) (HM.rd hp1) h502)) ?_
    rintro _ w503 ⟨rfl, hn⟩
    replace HM : Mem w [] w503 [] := HM.call hn
    refine ops_ex rfl (guard_none rfl) rfl rfl (ex_assign rfl rfl) ?_
    refine ops_nil ?_
    refine at_then ?_
    refine run_seq ?_
    refine run_seq ?_
    refine run_region rfl ?_
    refine ops_ex rfl (guard_none rfl) rfl rfl (ex_move rfl rfl) ?_
    refine ops_ex rfl (guard_none rfl) rfl rfl (ex_lss rfl rfl rfl) ?_
    refine ops_nil ?_
    refine at_then ?_
    refine run_cond (b := (decide (t501 < 0))) rfl (fun hb505 => ?_) (fun hb505 => ?_)
    · replace H := cond_t hb505 H
      refine run_seq ?_
      refine run_region rfl ?_
      refine ops_ex rfl (guard_none rfl) rfl rfl (ex_assign rfl rfl) ?_
      refine ops_nil ?_
      refine at_then ?_
      refine run_ret ?_
      refine at_then_ret ?_
      have hR := Option.some.inj H
      subst hR
      exact at_ret1 rfl rfl ⟨_, rfl, rfl, HM⟩
    · replace H := cond_f hb505 H
      refine run_skip ?_
      refine at_then ?_
      refine run_seq ?_
      obtain ⟨t506, h507, H⟩ := bind_some H
      obtain ⟨t510, h511, H⟩ := bind_some H
      obtain ⟨t514, h515, H⟩ := bind_some H
      refine run_region rfl ?_
      refine ops_ex rfl (guard_none rfl) rfl rfl (ex_move rfl rfl) ?_
      refine ops_does rfl (guard_none rfl) rfl rfl (does_callk rfl callok22 rfl (laws_toMemberS.calls (x0 := x0) (HM.rd hp0) h507)) ?_
      rintro u508 w516 ⟨_, rfl, hn⟩
      replace HM : Mem w [] w516 [own kMember 94 u508 t506] := HM.call hn
      refine ops_ex rfl (guard_none rfl) rfl rfl (ex_move rfl rfl) ?_
      refine ops_does rfl (guard_none rfl) rfl rfl (does_callk rfl callok22 rfl (laws_toMemberS.calls (x0 := x1) (HM.rd hp1) h511)) ?_
      rintro u512 w517 ⟨_, rfl, hn⟩
      replace HM : Mem w [] w517 [own kMember 94 u512 t510, own kMember 94 u508 t506] := HM.call hn
      refine ops_does rfl (guard_none rfl) rfl rfl (does_callk rfl callok21 rfl (spec_SameMembers.calls (x0 := t506) (x1 := t510) (HM.own_rd 1 rfl) (HM.own_rd 0 rfl) h515)) ?_
      rintro _ w518 ⟨rfl, hn⟩
      replace HM : Mem w [] w518 [own kMember 94 u512 t510, own kMember 94 u508 t506] := HM.call hn
      refine ops_ex rfl (guard_none rfl) rfl rfl (ex_assign rfl rfl) ?_
      refine ops_nil ?_
      refine at_then ?_
      refine run_seq ?_
      obtain ⟨t519, h520, H⟩ := bind_some H
      refine run_region rfl ?_
      refine ops_ex rfl (guard_none rfl) rfl rfl (ex_move rfl rfl) ?_
      refine ops_does rfl (guard_none rfl) rfl rfl (does_callk rfl callok22 rfl (laws_toMemberS.calls (x0 := x0) (HM.rd hp0) h520)) ?_
      rintro u521 w523 ⟨_, rfl, hn⟩
      replace HM : Mem w [] w523 [own kMember 94 u521 t519, own kMember 94 u512 t510, own kMember 94 u508 t506] := HM.call hn
      refine ops_ex rfl (guard_none rfl) rfl rfl (ex_assign rfl rfl) ?_
      refine ops_nil ?_
      refine at_then ?_
      refine run_seq ?_
      obtain ⟨t524, h525, H⟩ := bind_some H
      refine run_region rfl ?_
      refine ops_ex rfl (guard_none rfl) rfl rfl (ex_move rfl rfl) ?_
      refine ops_does rfl (guard_none rfl) rfl rfl (does_callk rfl callok22 rfl (laws_toMemberS.calls (x0 := x1) (HM.rd hp1) h525)) ?_
      rintro u526 w528 ⟨_, rfl, hn⟩
      replace HM : Mem w [] w528 [own kMember 94 u526 t524, own kMember 94 u521 t519, own kMember 94 u512 t510, own kMember 94 u508 t506] := HM.call hn
      refine ops_ex rfl (guard_none rfl) rfl rfl (ex_assign rfl rfl) ?_
      refine ops_nil ?_
      refine at_then ?_
      refine run_seq ?_
      obtain ⟨t529, h530, H⟩ := bind_some H
      refine run_region rfl ?_
      refine ops_ex rfl (guard_none rfl) rfl rfl (ex_move rfl rfl) ?_
      refine ops_ex rfl (guard_none rfl) rfl rfl (ex_move rfl rfl) ?_
      refine ops_does rfl (guard_none rfl) rfl rfl (does_callk rfl callok23 rfl (impl_SameMembers.calls (x0 := t519) (x1 := t524) (HM.own_rd 1 rfl) (HM.own_rd 0 rfl) h530)) ?_
      rintro _ w531 ⟨rfl, hn⟩
      replace HM : Mem w [] w531 [own kMember 94 u526 t524, own kMember 94 u521 t519, own kMember 94 u512 t510, own kMember 94 u508 t506] := HM.call hn
      refine ops_ex rfl (guard_none rfl) rfl rfl (ex_assign rfl rfl) ?_
      refine ops_nil ?_
      refine at_then ?_
      refine run_seq ?_
      refine run_seq ?_
      refine run_region rfl ?_
      refine ops_ex rfl (guard_none rfl) rfl rfl (ex_move rfl rfl) ?_
      refine ops_ex rfl (guard_none rfl) rfl rfl (ex_move rfl rfl) ?_
      refine ops_ex rfl (guard_none rfl) rfl rfl (ex_bneq rfl rfl rfl Try.underlying4) ?_
      refine ops_nil ?_
      refine at_then ?_
      refine run_cond (b := (t529 != t514)) rfl (fun hb533 => ?_) (fun hb533 => ?_)
      · replace H := cond_t hb533 H
        refine run_seq ?_
        refine run_region rfl ?_
        refine ops_ex rfl (guard_none rfl) rfl rfl (ex_assign rfl rfl) ?_
        refine ops_nil ?_
        refine at_then ?_
        refine run_ret ?_
        refine at_then_ret ?_
        replace HM := (HM.front 0 rfl rfl).drop
        replace HM := (HM.front 0 rfl rfl).drop
        replace HM := (HM.front 0 rfl rfl).drop
        replace HM := (HM.front 0 rfl rfl).drop
        have hR := Option.some.inj H
        subst hR
        exact at_ret1 rfl rfl ⟨_, rfl, rfl, HM⟩
      · replace H := cond_f hb533 H
        refine run_skip ?_
        refine at_then ?_
        refine run_seq ?_
        refine run_seq ?_
        obtain ⟨t541, h542, H⟩ := bind_some H
        obtain ⟨t545, h546, H⟩ := bind_some H
        refine run_region rfl ?_
        refine ops_ex rfl (guard_none rfl) rfl rfl (ex_move rfl rfl) ?_
        refine ops_ex rfl (guard_none rfl) rfl rfl (ex_move rfl rfl) ?_
        refine ops_does rfl (guard_none rfl) rfl rfl (does_callk rfl callok22 rfl (laws_toMemberS.calls (x0 := x0) (HM.rd hp0) h542)) ?_
        rintro u543 w547 ⟨_, rfl, hn⟩
        replace HM : Mem w [] w547 [own kMember 94 u543 t541, own kMember 94 u526 t524, own kMember 94 u521 t519, own kMember 94 u512 t510, own kMember 94 u508 t506] := HM.call hn
        refine ops_does rfl (guard_none rfl) rfl rfl (does_callk rfl callok24 rfl (laws_eqMemberS.calls (x0 := t519) (x1 := t541) (HM.own_rd 2 rfl) (HM.own_rd 0 rfl) h546)) ?_
        rintro _ w548 ⟨rfl, hn⟩
        replace HM : Mem w [] w548 [own kMember 94 u543 t541, own kMember 94 u526 t524, own kMember 94 u521 t519, own kMember 94 u512 t510, own kMember 94 u508 t506] := HM.call hn
        refine ops_ex rfl (guard_none rfl) rfl rfl (ex_not rfl rfl) ?_
        refine ops_nil ?_
        refine at_then ?_
        refine run_cond (b := !t545) rfl (fun hb549 => ?_) (fun hb549 => ?_)
        · replace H := cond_t hb549 H
          refine run_seq ?_
          refine run_region rfl ?_
          refine ops_ex rfl (guard_none rfl) rfl rfl (ex_assign rfl rfl) ?_
          refine ops_nil ?_
          refine at_then ?_
          refine run_ret ?_
          refine at_then_ret ?_
          replace HM := (HM.front 0 rfl rfl).drop
          replace HM := (HM.front 0 rfl rfl).drop
          replace HM := (HM.front 0 rfl rfl).drop
          replace HM := (HM.front 0 rfl rfl).drop
          replace HM := (HM.front 0 rfl rfl).drop
          have hR := Option.some.inj H
          subst hR
          exact at_ret1 rfl rfl ⟨_, rfl, rfl, HM⟩
        · replace H := cond_f hb549 H
          refine run_skip ?_
          refine at_then ?_
          refine run_seq ?_
          refine run_seq ?_
          obtain ⟨t550, h551, H⟩ := bind_some H
          obtain ⟨t554, h555, H⟩ := bind_some H
          refine run_region rfl ?_
          refine ops_ex rfl (guard_none rfl) rfl rfl (ex_move rfl rfl) ?_
          refine ops_ex rfl (guard_none rfl) rfl rfl (ex_move rfl rfl) ?_
          refine ops_does rfl (guard_none rfl) rfl rfl (does_callk rfl callok22 rfl (laws_toMemberS.calls (x0 := x1) (HM.rd hp1) h551)) ?_
          rintro u552 w556 ⟨_, rfl, hn⟩
          replace HM : Mem w [] w556 [own kMember 94 u552 t550, own kMember 94 u543 t541, own kMember 94 u526 t524, own kMember 94 u521 t519, own kMember 94 u512 t510, own kMember 94 u508 t506] := HM.call hn
          refine ops_does rfl (guard_none rfl) rfl rfl (does_callk rfl callok24 rfl (laws_eqMemberS.calls (x0 := t524) (x1 := t550) (HM.own_rd 2 rfl) (HM.own_rd 0 rfl) h555)) ?_
          rintro _ w557 ⟨rfl, hn⟩
          replace HM : Mem w [] w557 [own kMember 94 u552 t550, own kMember 94 u543 t541, own kMember 94 u526 t524, own kMember 94 u521 t519, own kMember 94 u512 t510, own kMember 94 u508 t506] := HM.call hn
          refine ops_ex rfl (guard_none rfl) rfl rfl (ex_not rfl rfl) ?_
          refine ops_nil ?_
          refine at_then ?_
          refine run_cond (b := !t554) rfl (fun hb558 => ?_) (fun hb558 => ?_)
          · replace H := cond_t hb558 H
            refine run_seq ?_
            refine run_region rfl ?_
            refine ops_ex rfl (guard_none rfl) rfl rfl (ex_assign rfl rfl) ?_
            refine ops_nil ?_
            refine at_then ?_
            refine run_ret ?_
            refine at_then_ret ?_
            replace HM := (HM.front 0 rfl rfl).drop
            replace HM := (HM.front 0 rfl rfl).drop
            replace HM := (HM.front 0 rfl rfl).drop
            replace HM := (HM.front 0 rfl rfl).drop
            replace HM := (HM.front 0 rfl rfl).drop
            replace HM := (HM.front 0 rfl rfl).drop
            have hR := Option.some.inj H
            subst hR
            exact at_ret1 rfl rfl ⟨_, rfl, rfl, HM⟩
          · replace H := cond_f hb558 H
            refine run_skip ?_
            refine at_then ?_
            refine run_seq ?_
            refine run_region rfl ?_
            refine ops_ex rfl (guard_none rfl) rfl rfl (ex_assign rfl rfl) ?_
            refine ops_nil ?_
            refine at_then ?_
            refine run_ret ?_
            replace HM := (HM.front 0 rfl rfl).drop
            replace HM := (HM.front 0 rfl rfl).drop
            replace HM := (HM.front 0 rfl rfl).drop
            replace HM := (HM.front 0 rfl rfl).drop
            replace HM := (HM.front 0 rfl rfl).drop
            replace HM := (HM.front 0 rfl rfl).drop
            have hR := Option.some.inj H
            subst hR
            exact at_ret1 rfl rfl ⟨_, rfl, rfl, HM⟩

def laws_szInt64S.f (k : Nat) (x0 : List Int) (x1 : Int) : Option Int := (bif (decide ((wrap64 (x1 - (x0.length : Int))) < 0)) then some (-1) else some (wrap64 (x1 - (x0.length : Int))))
theorem laws_szInt64S.calls {k : Nat} {x0 : List Int} {x1 : Int} {p0 : Value} {w : World} (hp0 : RdS kInt w p0 x0) {r : Int} (H : laws_szInt64S.f k x0 x1 = some r) :
    Calls Try.prog 64 ([p0, .int .i64 x1] : List Value).toArray w (fun e w_ => ∃ v, e = .returned v ∧ v = (.int .i64 r) ∧ Mem w [] w_ []) := by
  have HM := Mem.start w
  refine calls_run (N := 12) Try.func64 rfl rfl rfl rfl ?_
  unfold laws_szInt64S.f at H
  refine run_seq ?_
  refine run_region rfl ?_
  refine ops_ex rfl (guard_none rfl) rfl rfl (ex_assign rfl rfl) ?_
  refine ops_nil ?_
  refine at_then ?_
  refine run_seq ?_
  refine run_region rfl ?_
  refine ops_ex rfl (guard_none rfl) rfl rfl (ex_move rfl rfl) ?_
  refine ops_ex rfl (guard_none rfl) rfl rfl (ex_move rfl rfl) ?_
  refine ops_ex rfl (guard_none rfl) rfl rfl (ex_len (d := kInt) (xs := x0) rfl rfl Try.underlying34 hp0) ?_
  refine ops_ex rfl (guard_none rfl) rfl rfl (ex_sub rfl rfl rfl) ?_
  refine ops_ex rfl (guard_none rfl) rfl rfl (ex_assign rfl rfl) ?_
  refine ops_nil ?_
  refine at_then ?_
  refine run_seq ?_
  refine run_seq ?_
  refine run_region rfl ?_
  refine ops_ex rfl (guard_none rfl) rfl rfl (ex_move rfl rfl) ?_
  refine ops_ex rfl (guard_none rfl) rfl rfl (ex_lss rfl rfl rfl) ?_
  refine ops_nil ?_
  refine at_then ?_
  refine run_cond (b := (decide ((wrap64 (x1 - (x0.length : Int))) < 0))) rfl (fun hb569 => ?_) (fun hb569 => ?_)
  · replace H := cond_t hb569 H
    refine run_seq ?_
    refine run_region rfl ?_
    refine ops_ex rfl (guard_none rfl) rfl rfl (ex_assign rfl rfl) ?_
    refine ops_nil ?_
    refine at_then ?_
    refine run_ret ?_
    refine at_then_ret ?_
    have hR := Option.some.inj H
    subst hR
    exact at_ret1 rfl rfl ⟨_, rfl, rfl, HM⟩
  · replace H := cond_f hb569 H
    refine run_skip ?_
    refine at_then ?_
    refine run_seq ?_
    refine run_region rfl ?_
    refine ops_ex rfl (guard_none rfl) rfl rfl (ex_move rfl rfl) ?_
    refine ops_ex rfl (guard_none rfl) rfl rfl (ex_assign rfl rfl) ?_
    refine ops_nil ?_
    refine at_then ?_
    refine run_ret ?_
    have hR := Option.some.inj H
    subst hR
    exact at_ret1 rfl rfl ⟨_, rfl, rfl, HM⟩

def laws_szRule.f (k : Nat) (x0 : Rule) (x1 : Int) : Option Int := ((laws_szInt64S.f k x0.fKeys x1).bind fun t577 => (bif (decide (t577 < 0)) then some (-1) else some t577))
theorem laws_szRule.calls {k : Nat} {x0 : Rule} {x1 : Int} {p0_0 : Value} {w : World} (hp0_0 : RdS kInt w p0_0 x0.fKeys) {r : Int} (H : laws_szRule.f k x0 x1 = some r) :
    Calls Try.prog 25 ([.agg #[p0_0, (.int .i64 x0.fNeed), (.int .i64 x0.fAfter)], .int .i64 x1] : List Value).toArray w (fun e w_ => ∃ v, e = .returned v ∧ v = (.int .i64 r) ∧ Mem w [] w_ []) := by
  have HM := Mem.start w
  refine calls_run (N := 12) Try.func25 rfl rfl rfl rfl ?_
  unfold laws_szRule.f at H
  refine run_seq ?_
  refine run_region rfl ?_
  refine ops_does rfl (guard_none rfl) rfl rfl (does_box (cs := [p0_0, .int .i64 x0.fNeed, .int .i64 x0.fAfter]) rfl rfl rfl HM) ?_
  rintro _ w576 ⟨b573, rfl, HM⟩
  refine ops_ex rfl (guard_none rfl) rfl rfl (ex_assign rfl rfl) ?_
  refine ops_nil ?_
  refine at_then ?_
  refine run_seq ?_
  obtain ⟨t577, h578, H⟩ := bind_some H
  refine run_region rfl ?_
  refine ops_ex rfl (guard_none rfl) rfl rfl (ex_fieldAddr (off' := 0) rfl rfl Try.underlying36 rfl tsz34 rfl) ?_
  refine ops_ex rfl (guard_none rfl) rfl rfl (ex_load1 rfl rfl Try.underlying34 rfl ((HM.box_at 0 rfl) 0 _ rfl)) ?_
  refine ops_ex rfl (guard_none rfl) rfl rfl (ex_move rfl rfl) ?_
  refine ops_does rfl (guard_none rfl) rfl rfl (does_callk rfl callok64 rfl (laws_szInt64S.calls (x0 := x0.fKeys) (x1 := x1) (HM.rd hp0_0) h578)) ?_
  rintro _ w579 ⟨rfl, hn⟩
  replace HM : Mem w [] w579 [box b573 36 [p0_0, .int .i64 x0.fNeed, .int .i64 x0.fAfter]] := HM.call hn
  refine ops_ex rfl (guard_none rfl) rfl rfl (ex_assign rfl rfl) ?_
  refine ops_nil ?_
  refine at_then ?_
  refine run_seq ?_
  refine run_seq ?_
  refine run_region rfl ?_
  refine ops_ex rfl (guard_none rfl) rfl rfl (ex_move rfl rfl) ?_
  refine ops_ex rfl (guard_none rfl) rfl rfl (ex_lss rfl rfl rfl) ?_
  refine ops_nil ?_
  refine at_then ?_
  refine run_cond (b := (decide (t577 < 0))) rfl (fun hb580 => ?_) (fun hb580 => ?_)
  · replace H := cond_t hb580 H
    refine run_seq ?_
    refine run_region rfl ?_
    refine ops_ex rfl (guard_none rfl) rfl rfl (ex_assign rfl rfl) ?_
    refine ops_nil ?_
    refine at_then ?_
    refine run_ret ?_
    refine at_then_ret ?_
    replace HM := (HM.front 0 rfl rfl).drop
    have hR := Option.some.inj H
    subst hR
    exact at_ret1 rfl rfl ⟨_, rfl, rfl, HM⟩
  · replace H := cond_f hb580 H
    refine run_skip ?_
    refine at_then ?_
    refine run_seq ?_
    refine run_region rfl ?_
    refine ops_ex rfl (guard_none rfl) rfl rfl (ex_move rfl rfl) ?_
    refine ops_ex rfl (guard_none rfl) rfl rfl (ex_assign rfl rfl) ?_
    refine ops_nil ?_
    refine at_then ?_
    refine run_ret ?_
    replace HM := (HM.front 0 rfl rfl).drop
    have hR := Option.some.inj H
    subst hR
    exact at_ret1 rfl rfl ⟨_, rfl, rfl, HM⟩

def laws_toInt64S.l0 (x0 : List Int) : Nat → (List Int) → Int → Option ((List Int))
  | 0, _, _ => none
  | k + 1, a656, a658 => (bif (decide (a658 < (x0.length : Int))) then (chk (idxOk a658 x0.length) (chk (idxOk a658 a656.length) (laws_toInt64S.l0 x0 k (a656.set (a658).toNat (gt x0 a658)) (wrap64 (a658 + 1))))) else some a656)
theorem laws_toInt64S.l0_z (x0 : List Int) (a656 : List Int) (a658 : Int) : laws_toInt64S.l0 x0 0 a656 a658 = none := rfl
theorem laws_toInt64S.l0_s (x0 : List Int) (k : Nat) (a656 : List Int) (a658 : Int) : laws_toInt64S.l0 x0 (k + 1) a656 a658 = (bif (decide (a658 < (x0.length : Int))) then (chk (idxOk a658 x0.length) (chk (idxOk a658 a656.length) (laws_toInt64S.l0 x0 k (a656.set (a658).toNat (gt x0 a658)) (wrap64 (a658 + 1))))) else some a656) := rfl
def laws_toInt64S.f (k : Nat) (x0 : List Int) : Option ((List Int)) := (chk (decide (0 ≤ (x0.length : Int))) (chk (leB (((x0.length : Int)).toNat * 8) 281474976710656) ((laws_toInt64S.l0 x0 k (List.replicate ((x0.length : Int)).toNat 0) 0).bind (fun a647 => some a647))))
theorem laws_toInt64S.calls {k : Nat} {x0 : List Int} {p0 : Value} {w : World} (hp0 : RdS kInt w p0 x0) {r : (List Int)} (H : laws_toInt64S.f k x0 = some r) :
    Calls Try.prog 66 ([p0] : List Value).toArray w (fun e w_ => ∃ v, e = .returned v ∧ ∃ u0 : Value, v = u0 ∧ Mem w [] w_ [own kInt 2 u0 r]) := by
  have HM := Mem.start w
  refine calls_run (N := 22) Try.func66 rfl rfl rfl rfl ?_
  unfold laws_toInt64S.f at H
  refine run_seq ?_
  refine run_region rfl ?_
  refine ops_ex rfl (guard_none rfl) rfl rfl (ex_assign rfl rfl) ?_
  refine ops_nil ?_
  refine at_then ?_
  refine run_seq ?_
  obtain ⟨e627, H⟩ := chk_some H
  obtain ⟨e628, H⟩ := chk_some H
  refine run_region rfl ?_
  refine ops_ex rfl (guard_none rfl) rfl rfl (ex_move rfl rfl) ?_
  refine ops_ex rfl (guard_none rfl) rfl rfl (ex_len (d := kInt) (xs := x0) rfl rfl Try.underlying34 hp0) ?_
  refine ops_does rfl (guard_none rfl) rfl rfl (does_make (x := 0) kInt rfl rfl rfl Try.underlying34 tsz2 tby2 tz2 rfl rfl (fun _ => ⟨rfl, rfl⟩) (of_decide_eq_true e627) rfl (leB_le e628) rfl HM) ?_
  rintro v624 w629 HM
  refine ops_ex rfl (guard_none rfl) rfl rfl (ex_assign rfl rfl) ?_
  refine ops_nil ?_
  refine at_then ?_
  obtain ⟨o649, ho650, H⟩ := bind_some H
  refine run_mid (fun ρ_ w_ => ∃ v646 : Value, ∃ a647 : List Int, a647 = o649 ∧ ρ_ = [(3, v646)] ∧ Mem w [] w_ [own kInt 2 v646 a647]) ?_ ?_
  · clear H
    refine run_seq ?_
    refine run_region rfl ?_
    refine ops_ex rfl (guard_none rfl) rfl rfl (ex_assign rfl rfl) ?_
    refine ops_nil ?_
    refine at_then ?_
    refine run_block ?_
    refine run_loop (fun k_ ρ_ w_ => ∃ v655 : Value, ∃ a656 : List Int, ∃ a658 : Int, laws_toInt64S.l0 x0 k_ a656 a658 = some o649 ∧ ρ_ = [(0, p0), (3, v655), (4, .int .i64 a658)] ∧ Mem w [] w_ [own kInt 2 v655 a656]) k (ρ1 := [(0, p0), (3, v624), (4, .int .i64 0)]) ⟨_, _, _, ho650, rfl, HM⟩ (Sub.cons rfl (Sub.cons rfl (Sub.cons rfl Sub.nil))) ?_
    clear HM ho650
    rintro k663 _ w664 ⟨v655, a656, a658, ho650, rfl, HM⟩
    obtain _ | k663 := k663
    · exact nomatch ((laws_toInt64S.l0_z x0 a656 a658).symm.trans ho650)
    replace ho650 := (laws_toInt64S.l0_s x0 k663 a656 a658).symm.trans ho650
    refine run_seq ?_
    refine run_seq ?_
    refine run_region rfl ?_
    refine ops_ex rfl (guard_none rfl) rfl rfl (ex_move rfl rfl) ?_
    refine ops_ex rfl (guard_none rfl) rfl rfl (ex_move rfl rfl) ?_
    refine ops_ex rfl (guard_none rfl) rfl rfl (ex_len (d := kInt) (xs := x0) rfl rfl Try.underlying34 hp0) ?_
    refine ops_ex rfl (guard_none rfl) rfl rfl (ex_lss rfl rfl rfl) ?_
    refine ops_nil ?_
    refine at_then ?_
    refine run_cond (b := (decide (a658 < (x0.length : Int)))) rfl (fun hb665 => ?_) (fun hb665 => ?_)
    · replace ho650 := cond_t hb665 ho650
      refine run_skip ?_
      refine at_then ?_
      refine run_seq ?_
      refine run_block ?_
      obtain ⟨e666, ho650⟩ := chk_some ho650
      obtain ⟨e668, ho650⟩ := chk_some ho650
      refine run_region rfl ?_
      refine ops_ex rfl (guard_none rfl) rfl rfl (ex_move rfl rfl) ?_
      refine ops_ex rfl (guard_none rfl) rfl rfl (ex_move rfl rfl) ?_
      refine ops_ex rfl (guard_none rfl) rfl rfl (ex_move rfl rfl) ?_
      refine ops_ex rfl (guard_none rfl) rfl rfl (ex_move rfl rfl) ?_
      have hc667 : CellsAt _ (sb p0) (so p0 + (a658).toNat * 1) [(.int .i64 (gt x0 a658))] := rd_plain hp0 e666
      refine ops_ex rfl (guard_none rfl) rfl rfl (ex_indexAddr (d := kInt) rfl rfl rfl Try.underlying34 tsz2 hp0 (idx_lo e666) (idx_hi e666)) ?_
      refine ops_ex rfl (guard_none rfl) rfl rfl (ex_load1 rfl rfl Try.underlying2 rfl ((HM.at_ hc667) 0 _ rfl)) ?_
      refine ops_ex rfl (guard_none rfl) rfl rfl (ex_indexAddr (d := kInt) rfl rfl rfl Try.underlying34 tsz2 (HM.own_rd 0 rfl) (idx_lo e668) (idx_hi e668)) ?_
      refine ops_doesS rfl (guard_none rfl) rfl (does_setElem (vs := [(.int .i64 (gt x0 a658))]) (y := (gt x0 a658)) kInt rfl rfl rfl rfl rfl tsz2 rfl rfl (idx_nat e668) (fun _ _ h => ⟨rfl, h⟩) (HM.emp.front 1 rfl rfl)) ?_
      rintro w669 HM
      refine ops_nil ?_
      refine at_block ?_
      refine at_then ?_
      refine run_region rfl ?_
      refine ops_ex rfl (guard_none rfl) rfl rfl (ex_move rfl rfl) ?_
      refine ops_ex rfl (guard_none rfl) rfl rfl (ex_add rfl rfl rfl) ?_
      refine ops_ex rfl (guard_none rfl) rfl rfl (ex_assign rfl rfl) ?_
      refine ops_nil ?_
      exact at_again k663 (ρ1 := [(0, p0), (3, v655), (4, .int .i64 (wrap64 (a658 + 1)))]) (Nat.lt_succ_self _) ⟨_, _, _, ho650, rfl, HM⟩ (Sub.cons rfl (Sub.cons rfl (Sub.cons rfl Sub.nil)))
    · replace ho650 := cond_f hb665 ho650
      refine run_exit ?_
      refine at_then_exit ?_
      refine at_then_exit ?_
      refine at_block_exit ?_
      exact at_mid (ρ' := [(3, v655)]) ⟨_, _, (Option.some.inj ho650), rfl, HM⟩ (Sub.cons rfl Sub.nil)
  · rintro _ w670 ⟨v646, a647, rfl, rfl, HM⟩
    refine run_seq ?_
    refine run_region rfl ?_
    refine ops_ex rfl (guard_none rfl) rfl rfl (ex_move rfl rfl) ?_
    refine ops_ex rfl (guard_none rfl) rfl rfl (ex_assign rfl rfl) ?_
    refine ops_nil ?_
    refine at_then ?_
    refine run_ret ?_
    have hR := Option.some.inj H
    subst hR
    exact at_ret1 rfl rfl ⟨_, rfl, _, rfl, HM⟩

def laws_toRule.f (k : Nat) (x0 : Rule) : Option Rule := ((laws_toInt64S.f k x0.fKeys).bind fun t687 => some (⟨t687, x0.fNeed, x0.fAfter⟩ : Rule))
theorem laws_toRule.calls {k : Nat} {x0 : Rule} {p0_0 : Value} {w : World} (hp0_0 : RdS kInt w p0_0 x0.fKeys) {r : Rule} (H : laws_toRule.f k x0 = some r) :
    Calls Try.prog 27 ([.agg #[p0_0, (.int .i64 x0.fNeed), (.int .i64 x0.fAfter)]] : List Value).toArray w (fun e w_ => ∃ v, e = .returned v ∧ ∃ u0 : Value, v = (.agg #[u0, .int .i64 r.fNeed, .int .i64 r.fAfter]) ∧ Mem w [] w_ [own kInt 2 u0 r.fKeys]) := by
  have HM := Mem.start w
  refine calls_run (N := 15) Try.func27 rfl rfl rfl rfl ?_
  unfold laws_toRule.f at H
  refine run_seq ?_
  refine run_region rfl ?_
  refine ops_does rfl (guard_none rfl) rfl rfl (does_box (cs := [p0_0, .int .i64 x0.fNeed, .int .i64 x0.fAfter]) rfl rfl rfl HM) ?_
  rintro _ w681 ⟨b675, rfl, HM⟩
  refine ops_does rfl (guard_none rfl) rfl rfl (does_alloc (cs := [.slice none 0 0, .int .i64 0, .int .i64 0]) rfl tz39 rfl HM) ?_
  rintro _ w682 ⟨b678, rfl, HM⟩
  refine ops_nil ?_
  refine at_then ?_
  refine run_seq ?_
  refine run_region rfl ?_
  refine ops_does rfl (guard_none rfl) rfl rfl (does_alloc (cs := [.slice none 0 0, .int .i64 0, .int .i64 0]) rfl tz39 rfl HM) ?_
  rintro _ w686 ⟨b683, rfl, HM⟩
  refine ops_nil ?_
  refine at_then ?_
  refine run_seq ?_
  obtain ⟨t687, h688, H⟩ := bind_some H
  refine run_region rfl ?_
  refine ops_ex rfl (guard_none rfl) rfl rfl (ex_fieldAddr (off' := 0) rfl rfl Try.underlying36 rfl tsz34 rfl) ?_
  refine ops_ex rfl (guard_none rfl) rfl rfl (ex_load1 rfl rfl Try.underlying34 rfl ((HM.box_at 2 rfl) 0 _ rfl)) ?_
  refine ops_does rfl (guard_none rfl) rfl rfl (does_callk rfl callok66 rfl (laws_toInt64S.calls (x0 := x0.fKeys) (HM.rd hp0_0) h688)) ?_
  rintro u689 w691 ⟨_, rfl, hn⟩
  replace HM : Mem w [] w691 [own kInt 2 u689 t687, box b683 39 [.slice none 0 0, .int .i64 0, .int .i64 0], box b678 39 [.slice none 0 0, .int .i64 0, .int .i64 0], box b675 36 [p0_0, .int .i64 x0.fNeed, .int .i64 x0.fAfter]] := HM.call hn
  refine ops_ex rfl (guard_none rfl) rfl rfl (ex_fieldAddr (off' := 0) rfl rfl Try.underlying39 rfl tsz34 rfl) ?_
  replace HM := HM.front 1 rfl rfl
  refine ops_doesS rfl (guard_none rfl) rfl (does_store (vs := [u689]) (cs' := [u689, .int .i64 0, .int .i64 0]) rfl rfl rfl (rd_cells (HM.own_rd 1 rfl)) tsz34 (Ones.rd (HM.own_rd 1 rfl) Ones.nil) rfl rfl HM) ?_
  rintro w692 HM
  refine ops_nil ?_
  refine at_then ?_
  refine run_seq ?_
  refine run_region rfl ?_
  refine ops_ex rfl (guard_none rfl) rfl rfl (ex_fieldAddr (off' := 1) rfl rfl Try.underlying36 rfl tsz2 rfl) ?_
  refine ops_ex rfl (guard_none rfl) rfl rfl (ex_load1 rfl rfl Try.underlying2 rfl ((HM.box_at 3 rfl) 1 _ rfl)) ?_
  refine ops_ex rfl (guard_none rfl) rfl rfl (ex_fieldAddr (off' := 1) rfl rfl Try.underlying39 rfl tsz2 rfl) ?_
  refine ops_doesS rfl (guard_none rfl) rfl (does_store (vs := [.int .i64 x0.fNeed]) (cs' := [u689, .int .i64 x0.fNeed, .int .i64 0]) rfl rfl rfl rfl tsz2 (Ones.int Ones.nil) rfl rfl HM) ?_
  rintro w693 HM
  refine ops_nil ?_
  refine at_then ?_
  refine run_seq ?_
  refine run_region rfl ?_
  refine ops_ex rfl (guard_none rfl) rfl rfl (ex_fieldAddr (off' := 2) rfl rfl Try.underlying36 rfl tsz2 rfl) ?_
  refine ops_ex rfl (guard_none rfl) rfl rfl (ex_load1 rfl rfl Try.underlying2 rfl ((HM.box_at 3 rfl) 2 _ rfl)) ?_
  refine ops_ex rfl (guard_none rfl) rfl rfl (ex_fieldAddr (off' := 2) rfl rfl Try.underlying39 rfl tsz2 rfl) ?_
  refine ops_doesS rfl (guard_none rfl) rfl (does_store (vs := [.int .i64 x0.fAfter]) (cs' := [u689, .int .i64 x0.fNeed, .int .i64 x0.fAfter]) rfl rfl rfl rfl tsz2 (Ones.int Ones.nil) rfl rfl HM) ?_
  rintro w694 HM
  refine ops_nil ?_
  refine at_then ?_
  refine run_seq ?_
  refine run_region rfl ?_
  refine ops_ex rfl (guard_none rfl) rfl rfl (ex_loadN (cs := [u689, (.int .i64 x0.fNeed), (.int .i64 x0.fAfter)]) rfl rfl Try.underlying39 rfl tsz39 rfl ((HM.box_at 0 rfl).sub 0 3 rfl)) ?_
  replace HM := HM.front 2 rfl rfl
  refine ops_doesS rfl (guard_none rfl) rfl (does_store (vs := [u689, .int .i64 x0.fNeed, .int .i64 x0.fAfter]) (cs' := [u689, .int .i64 x0.fNeed, .int .i64 x0.fAfter]) rfl rfl rfl rfl tsz39 (Ones.rd (HM.own_rd 2 rfl) (Ones.int (Ones.int Ones.nil))) rfl rfl HM) ?_
  rintro w695 HM
  refine ops_nil ?_
  refine at_then ?_
  refine run_ret ?_
  replace HM := (HM.front 1 rfl rfl).drop
  replace HM := (HM.front 2 rfl rfl).drop
  have hcb0 := HM.box_at 0 rfl
  replace HM := (HM.front 0 rfl rfl).drop
  have hR := Option.some.inj H
  subst hR
  exact at_retN rfl rfl Try.underlying39 rfl tsz39 rfl hcb0 ⟨_, rfl, _, rfl, HM⟩

def spec_l2Ints.l0 (x0 : List Int) (x1 : List Int) : Nat → Int → Option (Bool ⊕ Unit)
  | 0, _ => none
  | k + 1, a762 => (bif (decide (a762 < (x0.length : Int))) then (chk (idxOk a762 x0.length) (chk (idxOk a762 x1.length) (bif ((gt x0 a762) != (gt x1 a762)) then some (.inl false) else spec_l2Ints.l0 x0 x1 k (wrap64 (a762 + 1))))) else some (.inr ()))
theorem spec_l2Ints.l0_z (x0 : List Int) (x1 : List Int) (a762 : Int) : spec_l2Ints.l0 x0 x1 0 a762 = none := rfl
theorem spec_l2Ints.l0_s (x0 : List Int) (x1 : List Int) (k : Nat) (a762 : Int) : spec_l2Ints.l0 x0 x1 (k + 1) a762 = (bif (decide (a762 < (x0.length : Int))) then (chk (idxOk a762 x0.length) (chk (idxOk a762 x1.length) (bif ((gt x0 a762) != (gt x1 a762)) then some (.inl false) else spec_l2Ints.l0 x0 x1 k (wrap64 (a762 + 1))))) else some (.inr ())) := rfl
def spec_l2Ints.f (k : Nat) (x0 : List Int) (x1 : List Int) : Option Bool := (bif ((x0.length : Int) != (x1.length : Int)) then some false else ((spec_l2Ints.l0 x0 x1 k 0).bind fun o754 => thn o754 (fun r => some r) (fun _ => some true)))
theorem spec_l2Ints.calls {k : Nat} {x0 : List Int} {x1 : List Int} {p0 : Value} {p1 : Value} {w : World} (hp0 : RdS kInt w p0 x0) (hp1 : RdS kInt w p1 x1) {r : Bool} (H : spec_l2Ints.f k x0 x1 = some r) :
    Calls Try.prog 104 ([p0, p1] : List Value).toArray w (fun e w_ => ∃ v, e = .returned v ∧ v = (.bool r) ∧ Mem w [] w_ []) := by
  have HM := Mem.start w
  refine calls_run (N := 26) Try.func104 rfl rfl rfl rfl ?_
  unfold spec_l2Ints.f at H
  refine run_seq ?_
  refine run_region rfl ?_
  refine ops_ex rfl (guard_none rfl) rfl rfl (ex_assign rfl rfl) ?_
  refine ops_nil ?_
  refine at_then ?_
  refine run_seq ?_
  refine run_seq ?_
  refine run_region rfl ?_
  refine ops_ex rfl (guard_none rfl) rfl rfl (ex_move rfl rfl) ?_
  refine ops_ex rfl (guard_none rfl) rfl rfl (ex_len (d := kInt) (xs := x0) rfl rfl Try.underlying34 hp0) ?_
  refine ops_ex rfl (guard_none rfl) rfl rfl (ex_move rfl rfl) ?_
  refine ops_ex rfl (guard_none rfl) rfl rfl (ex_len (d := kInt) (xs := x1) rfl rfl Try.underlying34 hp1) ?_
  refine ops_ex rfl (guard_none rfl) rfl rfl (ex_neq rfl rfl rfl) ?_
  refine ops_nil ?_
  refine at_then ?_
  refine run_cond (b := ((x0.length : Int) != (x1.length : Int))) rfl (fun hb734 => ?_) (fun hb734 => ?_)
  · replace H := cond_t hb734 H
    refine run_seq ?_
    refine run_region rfl ?_
    refine ops_ex rfl (guard_none rfl) rfl rfl (ex_assign rfl rfl) ?_
    refine ops_nil ?_
    refine at_then ?_
    refine run_ret ?_
    refine at_then_ret ?_
    have hR := Option.some.inj H
    subst hR
    exact at_ret1 rfl rfl ⟨_, rfl, rfl, HM⟩
  · replace H := cond_f hb734 H
    refine run_skip ?_
    refine at_then ?_
    obtain ⟨o754, ho755, H⟩ := bind_some H
    refine run_mid (fun ρ_ w_ => Sum.inr () = o754 ∧ ρ_ = [] ∧ Mem w [] w_ []) ?_ ?_
    · skip
      refine run_seq ?_
      refine run_region rfl ?_
      refine ops_ex rfl (guard_none rfl) rfl rfl (ex_assign rfl rfl) ?_
      refine ops_nil ?_
      refine at_then ?_
      refine run_block ?_
      refine run_loop (fun k_ ρ_ w_ => ∃ a762 : Int, spec_l2Ints.l0 x0 x1 k_ a762 = some o754 ∧ ρ_ = [(0, p0), (1, p1), (5, .int .i64 a762)] ∧ Mem w [] w_ []) k (ρ1 := [(0, p0), (1, p1), (5, .int .i64 0)]) ⟨_, ho755, rfl, HM⟩ (Sub.cons rfl (Sub.cons rfl (Sub.cons rfl Sub.nil))) ?_
      clear HM ho755
      rintro k769 _ w770 ⟨a762, ho755, rfl, HM⟩
      obtain _ | k769 := k769
      · exact nomatch ((spec_l2Ints.l0_z x0 x1 a762).symm.trans ho755)
      replace ho755 := (spec_l2Ints.l0_s x0 x1 k769 a762).symm.trans ho755
      refine run_seq ?_
      refine run_seq ?_
      refine run_region rfl ?_
      refine ops_ex rfl (guard_none rfl) rfl rfl (ex_move rfl rfl) ?_
      refine ops_ex rfl (guard_none rfl) rfl rfl (ex_move rfl rfl) ?_
      refine ops_ex rfl (guard_none rfl) rfl rfl (ex_len (d := kInt) (xs := x0) rfl rfl Try.underlying34 hp0) ?_
      refine ops_ex rfl (guard_none rfl) rfl rfl (ex_lss rfl rfl rfl) ?_
      refine ops_nil ?_
      refine at_then ?_
      refine run_cond (b := (decide (a762 < (x0.length : Int)))) rfl (fun hb771 => ?_) (fun hb771 => ?_)
      · replace ho755 := cond_t hb771 ho755
        refine run_skip ?_
        refine at_then ?_
        refine run_seq ?_
        refine run_block ?_
        refine run_seq ?_
        obtain ⟨e772, ho755⟩ := chk_some ho755
        obtain ⟨e774, ho755⟩ := chk_some ho755
        refine run_draw (fun w_ => Mem w [] w_ []) mixed rfl rfl ?_
        replace HM := HM.grow (fr_drew _)
        have hS := Mem.suf (M := []) HM
        refine drw_take (i := 0) (l' := #[true, false, false, false, false, false, false, false, false]) rfl (guard_none rfl) rfl rfl (by kernel_rfl) (fun w_ hS_ => (ex_move rfl rfl)) hS ?_
        refine drw_take (i := 1) (l' := #[true, true, false, false, false, false, false, false, false]) rfl (guard_none rfl) rfl rfl (by kernel_rfl) (fun w_ hS_ => (ex_move rfl rfl)) hS ?_
        have hc773 : CellsAt _ (sb p0) (so p0 + (a762).toNat * 1) [(.int .i64 (gt x0 a762))] := rd_plain hp0 e772
        refine drw_take (i := 2) (l' := #[true, true, true, false, false, false, false, false, false]) rfl (guard_none rfl) rfl rfl (by kernel_rfl) (fun w_ hS_ => (ex_indexAddr (d := kInt) rfl rfl rfl Try.underlying34 tsz2 hp0 (idx_lo e772) (idx_hi e772))) hS ?_
        refine drw_take (i := 3) (l' := #[true, true, true, true, false, false, false, false, false]) rfl (guard_none rfl) rfl rfl (by kernel_rfl) (fun w_ hS_ => (ex_load1 rfl rfl Try.underlying2 rfl ((hS_.at_ hc773) 0 _ rfl))) hS ?_
        refine drw_take (i := 4) (l' := #[true, true, true, true, true, false, false, false, false]) rfl (guard_none rfl) rfl rfl (by kernel_rfl) (fun w_ hS_ => (ex_move rfl rfl)) hS ?_
        refine drw_take (i := 5) (l' := #[true, true, true, true, true, true, false, false, false]) rfl (guard_none rfl) rfl rfl (by kernel_rfl) (fun w_ hS_ => (ex_move rfl rfl)) hS ?_
        have hc775 : CellsAt _ (sb p1) (so p1 + (a762).toNat * 1) [(.int .i64 (gt x1 a762))] := rd_plain hp1 e774
        refine drw_take (i := 6) (l' := #[true, true, true, true, true, true, true, false, false]) rfl (guard_none rfl) rfl rfl (by kernel_rfl) (fun w_ hS_ => (ex_indexAddr (d := kInt) rfl rfl rfl Try.underlying34 tsz2 hp1 (idx_lo e774) (idx_hi e774))) hS ?_
        refine drw_take (i := 7) (l' := #[true, true, true, true, true, true, true, true, false]) rfl (guard_none rfl) rfl rfl (by kernel_rfl) (fun w_ hS_ => (ex_load1 rfl rfl Try.underlying2 rfl ((hS_.at_ hc775) 0 _ rfl))) hS ?_
        refine drw_take (i := 8) (l' := #[true, true, true, true, true, true, true, true, true]) rfl (guard_none rfl) rfl rfl (by kernel_rfl) (fun w_ hS_ => (ex_neq rfl rfl rfl)) hS ?_
        refine drw_done (by kernel_rfl) ?_
        refine at_then ?_
        refine run_cond (b := ((gt x0 a762) != (gt x1 a762))) rfl (fun hb776 => ?_) (fun hb776 => ?_)
        · replace ho755 := cond_t hb776 ho755
          refine run_seq ?_
          refine run_region rfl ?_
          refine ops_ex rfl (guard_none rfl) rfl rfl (ex_assign rfl rfl) ?_
          refine ops_nil ?_
          refine at_then ?_
          refine run_ret ?_
          refine at_block_ret ?_
          refine at_then_ret ?_
          refine at_then_ret ?_
          refine at_block_ret ?_
          refine at_then_ret ?_
          have hR := Option.some.inj ho755
          subst hR
          have hT := thn_inl H
          have hR := Option.some.inj hT
          subst hR
          exact at_ret1 rfl rfl ⟨_, rfl, rfl, HM⟩
        · replace ho755 := cond_f hb776 ho755
          refine run_skip ?_
          refine at_block ?_
          refine at_then ?_
          refine run_region rfl ?_
          refine ops_ex rfl (guard_none rfl) rfl rfl (ex_move rfl rfl) ?_
          refine ops_ex rfl (guard_none rfl) rfl rfl (ex_add rfl rfl rfl) ?_
          refine ops_ex rfl (guard_none rfl) rfl rfl (ex_assign rfl rfl) ?_
          refine ops_nil ?_
          exact at_again k769 (ρ1 := [(0, p0), (1, p1), (5, .int .i64 (wrap64 (a762 + 1)))]) (Nat.lt_succ_self _) ⟨_, ho755, rfl, HM⟩ (Sub.cons rfl (Sub.cons rfl (Sub.cons rfl Sub.nil)))
      · replace ho755 := cond_f hb771 ho755
        refine run_exit ?_
        refine at_then_exit ?_
        refine at_then_exit ?_
        refine at_block_exit ?_
        exact at_mid (ρ' := []) ⟨(Option.some.inj ho755), rfl, HM⟩ Sub.nil
    · rintro _ w777 ⟨rfl, rfl, HM⟩
      replace H := (thn_inr H)
      refine run_seq ?_
      refine run_region rfl ?_
      refine ops_ex rfl (guard_none rfl) rfl rfl (ex_assign rfl rfl) ?_
      refine ops_nil ?_
      refine at_then ?_
      refine run_ret ?_
      have hR := Option.some.inj H
      subst hR
      exact at_ret1 rfl rfl ⟨_, rfl, rfl, HM⟩

def spec_l2Same.f (k : Nat) (x0 : Rule) (x1 : Rule) : Option Bool := ((bif ((x0.fNeed == x1.fNeed) && (x0.fAfter == x1.fAfter)) then spec_l2Ints.f k x0.fKeys x1.fKeys else some default).bind fun t780 => some (((x0.fNeed == x1.fNeed) && (x0.fAfter == x1.fAfter)) && t780))
theorem spec_l2Same.calls {k : Nat} {x0 : Rule} {x1 : Rule} {b0 f0 : Nat} {p0_0 : Value} {b1 f1 : Nat} {p1_0 : Value} {w : World} (hc0 : CellsAt w b0 f0 [p0_0, .int .i64 x0.fNeed, .int .i64 x0.fAfter]) (hp0_0 : RdS kInt w p0_0 x0.fKeys) (hc1 : CellsAt w b1 f1 [p1_0, .int .i64 x1.fNeed, .int .i64 x1.fAfter]) (hp1_0 : RdS kInt w p1_0 x1.fKeys) {r : Bool} (H : spec_l2Same.f k x0 x1 = some r) :
    Calls Try.prog 65 ([.pointer (some ⟨b0, f0, none⟩), .pointer (some ⟨b1, f1, none⟩)] : List Value).toArray w (fun e w_ => ∃ v, e = .returned v ∧ v = (.bool r) ∧ Mem w [] w_ []) := by
  have HM := Mem.start w
  refine calls_run (N := 36) Try.func65 rfl rfl rfl rfl ?_
  unfold spec_l2Same.f at H
  refine run_seq ?_
  refine run_region rfl ?_
  refine ops_ex rfl (guard_none rfl) rfl rfl (ex_assign rfl rfl) ?_
  refine ops_nil ?_
  refine at_then ?_
  refine run_seq ?_
  obtain ⟨t780, h781, H⟩ := bind_some H
  refine run_meet (fun ρ_ w_ => ρ_ = [(4, .bool (((x0.fNeed == x1.fNeed) && (x0.fAfter == x1.fAfter)) && t780))] ∧ Mem w [] w_ []) ?_ ?_
  · skip
    refine run_draw (fun w_ => Mem w [] w_ []) mixed rfl rfl ?_
    replace HM := HM.grow (fr_drew _)
    have hS := Mem.suf (M := []) HM
    refine drw_take (i := 0) (l' := #[true, false, false, false, false, false, false, false, false, false, false, false, false, false, false, false, false, false, false, false, false, false, false, false, false, false, false, false, false, false, false, false]) rfl (guard_none rfl) rfl rfl (by kernel_rfl) (fun w_ hS_ => (ex_move rfl rfl)) hS ?_
    refine drw_take (i := 1) (l' := #[true, true, false, false, false, false, false, false, false, false, false, false, false, false, false, false, false, false, false, false, false, false, false, false, false, false, false, false, false, false, false, false]) rfl (guard_none rfl) rfl rfl (by kernel_rfl) (fun w_ hS_ => (ex_nilCheck rfl rfl)) hS ?_
    refine drw_take (i := 2) (l' := #[true, true, true, false, false, false, false, false, false, false, false, false, false, false, false, false, false, false, false, false, false, false, false, false, false, false, false, false, false, false, false, false]) rfl (guard_none rfl) rfl rfl (by kernel_rfl) (fun w_ hS_ => (ex_fieldAddr (off' := f0 + 1) rfl rfl Try.underlying39 rfl tsz2 rfl)) hS ?_
    refine drw_take (i := 3) (l' := #[true, true, true, true, false, false, false, false, false, false, false, false, false, false, false, false, false, false, false, false, false, false, false, false, false, false, false, false, false, false, false, false]) rfl (guard_none rfl) rfl rfl (by kernel_rfl) (fun w_ hS_ => (ex_load1 rfl rfl Try.underlying2 rfl ((hS_.at_ hc0) 1 _ rfl))) hS ?_
    refine drw_take (i := 4) (l' := #[true, true, true, true, true, false, false, false, false, false, false, false, false, false, false, false, false, false, false, false, false, false, false, false, false, false, false, false, false, false, false, false]) rfl (guard_none rfl) rfl rfl (by kernel_rfl) (fun w_ hS_ => (ex_move rfl rfl)) hS ?_
    refine drw_take (i := 5) (l' := #[true, true, true, true, true, true, false, false, false, false, false, false, false, false, false, false, false, false, false, false, false, false, false, false, false, false, false, false, false, false, false, false]) rfl (guard_none rfl) rfl rfl (by kernel_rfl) (fun w_ hS_ => (ex_nilCheck rfl rfl)) hS ?_
    refine drw_take (i := 6) (l' := #[true, true, true, true, true, true, true, false, false, false, false, false, false, false, false, false, false, false, false, false, false, false, false, false, false, false, false, false, false, false, false, false]) rfl (guard_none rfl) rfl rfl (by kernel_rfl) (fun w_ hS_ => (ex_fieldAddr (off' := f1 + 1) rfl rfl Try.underlying39 rfl tsz2 rfl)) hS ?_
    refine drw_take (i := 7) (l' := #[true, true, true, true, true, true, true, true, false, false, false, false, false, false, false, false, false, false, false, false, false, false, false, false, false, false, false, false, false, false, false, false]) rfl (guard_none rfl) rfl rfl (by kernel_rfl) (fun w_ hS_ => (ex_load1 rfl rfl Try.underlying2 rfl ((hS_.at_ hc1) 1 _ rfl))) hS ?_
    refine drw_take (i := 8) (l' := #[true, true, true, true, true, true, true, true, true, false, false, false, false, false, false, false, false, false, false, false, false, false, false, false, false, false, false, false, false, false, false, false]) rfl (guard_none rfl) rfl rfl (by kernel_rfl) (fun w_ hS_ => (ex_eql rfl rfl rfl)) hS ?_
    refine drw_take (i := 9) (l' := #[true, true, true, true, true, true, true, true, true, true, false, false, false, false, false, false, false, false, false, false, false, false, false, false, false, false, false, false, false, false, false, false]) rfl (guard_none rfl) rfl rfl (by kernel_rfl) (fun w_ hS_ => (ex_move rfl rfl)) hS ?_
    refine bool_cases (x0.fNeed == x1.fNeed) (fun hg782 => ?_) (fun hg782 => ?_)
    · skip
      refine drw_take (i := 10) (l' := #[true, true, true, true, true, true, true, true, true, true, true, false, false, false, false, false, false, false, false, false, false, false, false, false, false, false, false, false, false, false, false, false]) rfl (guard_on rfl rfl rfl hg782) rfl rfl (by kernel_rfl) (fun w_ hS_ => (ex_move rfl rfl)) hS ?_
      refine drw_take (i := 11) (l' := #[true, true, true, true, true, true, true, true, true, true, true, true, false, false, false, false, false, false, false, false, false, false, false, false, false, false, false, false, false, false, false, false]) rfl (guard_on rfl rfl rfl hg782) rfl rfl (by kernel_rfl) (fun w_ hS_ => (ex_nilCheck rfl rfl)) hS ?_
      refine drw_take (i := 12) (l' := #[true, true, true, true, true, true, true, true, true, true, true, true, true, false, false, false, false, false, false, false, false, false, false, false, false, false, false, false, false, false, false, false]) rfl (guard_on rfl rfl rfl hg782) rfl rfl (by kernel_rfl) (fun w_ hS_ => (ex_fieldAddr (off' := f0 + 2) rfl rfl Try.underlying39 rfl tsz2 rfl)) hS ?_
      refine drw_take (i := 13) (l' := #[true, true, true, true, true, true, true, true, true, true, true, true, true, true, false, false, false, false, false, false, false, false, false, false, false, false, false, false, false, false, false, false]) rfl (guard_on rfl rfl rfl hg782) rfl rfl (by kernel_rfl) (fun w_ hS_ => (ex_load1 rfl rfl Try.underlying2 rfl ((hS_.at_ hc0) 2 _ rfl))) hS ?_
      refine drw_take (i := 14) (l' := #[true, true, true, true, true, true, true, true, true, true, true, true, true, true, true, false, false, false, false, false, false, false, false, false, false, false, false, false, false, false, false, false]) rfl (guard_on rfl rfl rfl hg782) rfl rfl (by kernel_rfl) (fun w_ hS_ => (ex_move rfl rfl)) hS ?_
      refine drw_take (i := 15) (l' := #[true, true, true, true, true, true, true, true, true, true, true, true, true, true, true, true, false, false, false, false, false, false, false, false, false, false, false, false, false, false, false, false]) rfl (guard_on rfl rfl rfl hg782) rfl rfl (by kernel_rfl) (fun w_ hS_ => (ex_nilCheck rfl rfl)) hS ?_
      refine drw_take (i := 16) (l' := #[true, true, true, true, true, true, true, true, true, true, true, true, true, true, true, true, true, false, false, false, false, false, false, false, false, false, false, false, false, false, false, false]) rfl (guard_on rfl rfl rfl hg782) rfl rfl (by kernel_rfl) (fun w_ hS_ => (ex_fieldAddr (off' := f1 + 2) rfl rfl Try.underlying39 rfl tsz2 rfl)) hS ?_
      refine drw_take (i := 17) (l' := #[true, true, true, true, true, true, true, true, true, true, true, true, true, true, true, true, true, true, false, false, false, false, false, false, false, false, false, false, false, false, false, false]) rfl (guard_on rfl rfl rfl hg782) rfl rfl (by kernel_rfl) (fun w_ hS_ => (ex_load1 rfl rfl Try.underlying2 rfl ((hS_.at_ hc1) 2 _ rfl))) hS ?_
      refine drw_take (i := 18) (l' := #[true, true, true, true, true, true, true, true, true, true, true, true, true, true, true, true, true, true, true, false, false, false, false, false, false, false, false, false, false, false, false, false]) rfl (guard_on rfl rfl rfl hg782) rfl rfl (by kernel_rfl) (fun w_ hS_ => (ex_eql rfl rfl rfl)) hS ?_
      refine drw_take (i := 19) (v := .bool ((x0.fNeed == x1.fNeed) && (x0.fAfter == x1.fAfter))) (l' := #[true, true, true, true, true, true, true, true, true, true, true, true, true, true, true, true, true, true, true, true, false, false, false, false, false, false, false, false, false, false, false, false]) rfl (guard_none rfl) rfl rfl (by kernel_rfl) (fun w_ hS_ => (ex_pand_t rfl rfl hg782 rfl)) hS ?_
      refine drw_take (i := 20) (l' := #[true, true, true, true, true, true, true, true, true, true, true, true, true, true, true, true, true, true, true, true, true, false, false, false, false, false, false, false, false, false, false, false]) rfl (guard_none rfl) rfl rfl (by kernel_rfl) (fun w_ hS_ => (ex_move rfl rfl)) hS ?_
      refine bool_cases ((x0.fNeed == x1.fNeed) && (x0.fAfter == x1.fAfter)) (fun hg783 => ?_) (fun hg783 => ?_)
      · skip
        refine drw_take (i := 21) (l' := #[true, true, true, true, true, true, true, true, true, true, true, true, true, true, true, true, true, true, true, true, true, true, false, false, false, false, false, false, false, false, false, false]) rfl (guard_on rfl rfl rfl hg783) rfl rfl (by kernel_rfl) (fun w_ hS_ => (ex_move rfl rfl)) hS ?_
        refine drw_take (i := 22) (l' := #[true, true, true, true, true, true, true, true, true, true, true, true, true, true, true, true, true, true, true, true, true, true, true, false, false, false, false, false, false, false, false, false]) rfl (guard_on rfl rfl rfl hg783) rfl rfl (by kernel_rfl) (fun w_ hS_ => (ex_nilCheck rfl rfl)) hS ?_
        refine drw_take (i := 23) (l' := #[true, true, true, true, true, true, true, true, true, true, true, true, true, true, true, true, true, true, true, true, true, true, true, true, false, false, false, false, false, false, false, false]) rfl (guard_on rfl rfl rfl hg783) rfl rfl (by kernel_rfl) (fun w_ hS_ => (ex_fieldAddr (off' := f0) rfl rfl Try.underlying39 rfl tsz34 rfl)) hS ?_
        refine drw_take (i := 24) (l' := #[true, true, true, true, true, true, true, true, true, true, true, true, true, true, true, true, true, true, true, true, true, true, true, true, true, false, false, false, false, false, false, false]) rfl (guard_on rfl rfl rfl hg783) rfl rfl (by kernel_rfl) (fun w_ hS_ => (ex_load1 rfl rfl Try.underlying34 rfl ((hS_.at_ hc0) 0 _ rfl))) hS ?_
        refine drw_take (i := 25) (l' := #[true, true, true, true, true, true, true, true, true, true, true, true, true, true, true, true, true, true, true, true, true, true, true, true, true, true, false, false, false, false, false, false]) rfl (guard_on rfl rfl rfl hg783) rfl rfl (by kernel_rfl) (fun w_ hS_ => (ex_move rfl rfl)) hS ?_
        refine drw_take (i := 26) (l' := #[true, true, true, true, true, true, true, true, true, true, true, true, true, true, true, true, true, true, true, true, true, true, true, true, true, true, true, false, false, false, false, false]) rfl (guard_on rfl rfl rfl hg783) rfl rfl (by kernel_rfl) (fun w_ hS_ => (ex_nilCheck rfl rfl)) hS ?_
        refine drw_take (i := 27) (l' := #[true, true, true, true, true, true, true, true, true, true, true, true, true, true, true, true, true, true, true, true, true, true, true, true, true, true, true, true, false, false, false, false]) rfl (guard_on rfl rfl rfl hg783) rfl rfl (by kernel_rfl) (fun w_ hS_ => (ex_fieldAddr (off' := f1) rfl rfl Try.underlying39 rfl tsz34 rfl)) hS ?_
        refine drw_take (i := 28) (l' := #[true, true, true, true, true, true, true, true, true, true, true, true, true, true, true, true, true, true, true, true, true, true, true, true, true, true, true, true, true, false, false, false]) rfl (guard_on rfl rfl rfl hg783) rfl rfl (by kernel_rfl) (fun w_ hS_ => (ex_load1 rfl rfl Try.underlying34 rfl ((hS_.at_ hc1) 0 _ rfl))) hS ?_
        refine drw_one (i := 29) (l' := #[true, true, true, true, true, true, true, true, true, true, true, true, true, true, true, true, true, true, true, true, true, true, true, true, true, true, true, true, true, true, false, false]) rfl (guard_on rfl rfl rfl hg783) rfl rfl (by kernel_rfl) (does_callk rfl callok104 rfl (spec_l2Ints.calls (x0 := x0.fKeys) (x1 := x1.fKeys) (HM.rd hp0_0) (HM.rd hp1_0) (cond_t hg783 h781))) ?_
        rintro _ w784 ⟨rfl, hn⟩
        replace HM : Mem w [] w784 [] := HM.call hn
        refine ⟨Mem.suf (M := []) HM, ?_⟩
        have hS := Mem.suf (M := []) HM
        refine drw_take (i := 30) (v := .bool (((x0.fNeed == x1.fNeed) && (x0.fAfter == x1.fAfter)) && t780)) (l' := #[true, true, true, true, true, true, true, true, true, true, true, true, true, true, true, true, true, true, true, true, true, true, true, true, true, true, true, true, true, true, true, false]) rfl (guard_none rfl) rfl rfl (by kernel_rfl) (fun w_ hS_ => (ex_pand_t rfl rfl hg783 rfl)) hS ?_
        refine drw_take (i := 31) (l' := #[true, true, true, true, true, true, true, true, true, true, true, true, true, true, true, true, true, true, true, true, true, true, true, true, true, true, true, true, true, true, true, true]) rfl (guard_none rfl) rfl rfl (by kernel_rfl) (fun w_ hS_ => (ex_assign rfl rfl)) hS ?_
        refine drw_done (by kernel_rfl) ?_
        exact at_meet [(4, .bool (((x0.fNeed == x1.fNeed) && (x0.fAfter == x1.fAfter)) && t780))] ⟨rfl, HM⟩ (Sub.cons rfl Sub.nil)
      · skip
        refine drw_off (i := 21) (l' := #[true, true, true, true, true, true, true, true, true, true, true, true, true, true, true, true, true, true, true, true, true, true, false, false, false, false, false, false, false, false, false, false]) rfl (guard_off rfl rfl rfl hg783) rfl rfl (by kernel_rfl) hS ?_
        refine drw_off (i := 22) (l' := #[true, true, true, true, true, true, true, true, true, true, true, true, true, true, true, true, true, true, true, true, true, true, true, false, false, false, false, false, false, false, false, false]) rfl (guard_off rfl rfl rfl hg783) rfl rfl (by kernel_rfl) hS ?_
        refine drw_off (i := 23) (l' := #[true, true, true, true, true, true, true, true, true, true, true, true, true, true, true, true, true, true, true, true, true, true, true, true, false, false, false, false, false, false, false, false]) rfl (guard_off rfl rfl rfl hg783) rfl rfl (by kernel_rfl) hS ?_
        refine drw_off (i := 24) (l' := #[true, true, true, true, true, true, true, true, true, true, true, true, true, true, true, true, true, true, true, true, true, true, true, true, true, false, false, false, false, false, false, false]) rfl (guard_off rfl rfl rfl hg783) rfl rfl (by kernel_rfl) hS ?_
        refine drw_off (i := 25) (l' := #[true, true, true, true, true, true, true, true, true, true, true, true, true, true, true, true, true, true, true, true, true, true, true, true, true, true, false, false, false, false, false, false]) rfl (guard_off rfl rfl rfl hg783) rfl rfl (by kernel_rfl) hS ?_
        refine drw_off (i := 26) (l' := #[true, true, true, true, true, true, true, true, true, true, true, true, true, true, true, true, true, true, true, true, true, true, true, true, true, true, true, false, false, false, false, false]) rfl (guard_off rfl rfl rfl hg783) rfl rfl (by kernel_rfl) hS ?_
        refine drw_off (i := 27) (l' := #[true, true, true, true, true, true, true, true, true, true, true, true, true, true, true, true, true, true, true, true, true, true, true, true, true, true, true, true, false, false, false, false]) rfl (guard_off rfl rfl rfl hg783) rfl rfl (by kernel_rfl) hS ?_
        refine drw_off (i := 28) (l' := #[true, true, true, true, true, true, true, true, true, true, true, true, true, true, true, true, true, true, true, true, true, true, true, true, true, true, true, true, true, false, false, false]) rfl (guard_off rfl rfl rfl hg783) rfl rfl (by kernel_rfl) hS ?_
        refine drw_off (i := 29) (l' := #[true, true, true, true, true, true, true, true, true, true, true, true, true, true, true, true, true, true, true, true, true, true, true, true, true, true, true, true, true, true, false, false]) rfl (guard_off rfl rfl rfl hg783) rfl rfl (by kernel_rfl) hS ?_
        have hg785 : (((x0.fNeed == x1.fNeed) && (x0.fAfter == x1.fAfter)) && t780) = false := by simp only [hg783, Bool.and_true, Bool.true_and, Bool.and_false, Bool.false_and, Bool.or_true, Bool.true_or, Bool.or_false, Bool.false_or, Bool.not_true, Bool.not_false, Bool.not_not]
        refine drw_take (i := 30) (v := .bool (((x0.fNeed == x1.fNeed) && (x0.fAfter == x1.fAfter)) && t780)) (l' := #[true, true, true, true, true, true, true, true, true, true, true, true, true, true, true, true, true, true, true, true, true, true, true, true, true, true, true, true, true, true, true, false]) rfl (guard_none rfl) rfl rfl (by kernel_rfl) (fun w_ hS_ => (ex_pand_f rfl rfl hg783)) hS ?_
        refine drw_take (i := 31) (l' := #[true, true, true, true, true, true, true, true, true, true, true, true, true, true, true, true, true, true, true, true, true, true, true, true, true, true, true, true, true, true, true, true]) rfl (guard_none rfl) rfl rfl (by kernel_rfl) (fun w_ hS_ => (ex_assign rfl rfl)) hS ?_
        refine drw_done (by kernel_rfl) ?_
        exact at_meet [(4, .bool (((x0.fNeed == x1.fNeed) && (x0.fAfter == x1.fAfter)) && t780))] ⟨rfl, HM⟩ (Sub.cons rfl Sub.nil)
    · skip
      refine drw_off (i := 10) (l' := #[true, true, true, true, true, true, true, true, true, true, true, false, false, false, false, false, false, false, false, false, false, false, false, false, false, false, false, false, false, false, false, false]) rfl (guard_off rfl rfl rfl hg782) rfl rfl (by kernel_rfl) hS ?_
      refine drw_off (i := 11) (l' := #[true, true, true, true, true, true, true, true, true, true, true, true, false, false, false, false, false, false, false, false, false, false, false, false, false, false, false, false, false, false, false, false]) rfl (guard_off rfl rfl rfl hg782) rfl rfl (by kernel_rfl) hS ?_
      refine drw_off (i := 12) (l' := #[true, true, true, true, true, true, true, true, true, true, true, true, true, false, false, false, false, false, false, false, false, false, false, false, false, false, false, false, false, false, false, false]) rfl (guard_off rfl rfl rfl hg782) rfl rfl (by kernel_rfl) hS ?_
      refine drw_off (i := 13) (l' := #[true, true, true, true, true, true, true, true, true, true, true, true, true, true, false, false, false, false, false, false, false, false, false, false, false, false, false, false, false, false, false, false]) rfl (guard_off rfl rfl rfl hg782) rfl rfl (by kernel_rfl) hS ?_
      refine drw_off (i := 14) (l' := #[true, true, true, true, true, true, true, true, true, true, true, true, true, true, true, false, false, false, false, false, false, false, false, false, false, false, false, false, false, false, false, false]) rfl (guard_off rfl rfl rfl hg782) rfl rfl (by kernel_rfl) hS ?_
      refine drw_off (i := 15) (l' := #[true, true, true, true, true, true, true, true, true, true, true, true, true, true, true, true, false, false, false, false, false, false, false, false, false, false, false, false, false, false, false, false]) rfl (guard_off rfl rfl rfl hg782) rfl rfl (by kernel_rfl) hS ?_
      refine drw_off (i := 16) (l' := #[true, true, true, true, true, true, true, true, true, true, true, true, true, true, true, true, true, false, false, false, false, false, false, false, false, false, false, false, false, false, false, false]) rfl (guard_off rfl rfl rfl hg782) rfl rfl (by kernel_rfl) hS ?_
      refine drw_off (i := 17) (l' := #[true, true, true, true, true, true, true, true, true, true, true, true, true, true, true, true, true, true, false, false, false, false, false, false, false, false, false, false, false, false, false, false]) rfl (guard_off rfl rfl rfl hg782) rfl rfl (by kernel_rfl) hS ?_
      refine drw_off (i := 18) (l' := #[true, true, true, true, true, true, true, true, true, true, true, true, true, true, true, true, true, true, true, false, false, false, false, false, false, false, false, false, false, false, false, false]) rfl (guard_off rfl rfl rfl hg782) rfl rfl (by kernel_rfl) hS ?_
      have hg786 : ((x0.fNeed == x1.fNeed) && (x0.fAfter == x1.fAfter)) = false := by simp only [hg782, Bool.and_true, Bool.true_and, Bool.and_false, Bool.false_and, Bool.or_true, Bool.true_or, Bool.or_false, Bool.false_or, Bool.not_true, Bool.not_false, Bool.not_not]
      refine drw_take (i := 19) (v := .bool ((x0.fNeed == x1.fNeed) && (x0.fAfter == x1.fAfter))) (l' := #[true, true, true, true, true, true, true, true, true, true, true, true, true, true, true, true, true, true, true, true, false, false, false, false, false, false, false, false, false, false, false, false]) rfl (guard_none rfl) rfl rfl (by kernel_rfl) (fun w_ hS_ => (ex_pand_f rfl rfl hg782)) hS ?_
      refine drw_take (i := 20) (l' := #[true, true, true, true, true, true, true, true, true, true, true, true, true, true, true, true, true, true, true, true, true, false, false, false, false, false, false, false, false, false, false, false]) rfl (guard_none rfl) rfl rfl (by kernel_rfl) (fun w_ hS_ => (ex_move rfl rfl)) hS ?_
      refine drw_off (i := 21) (l' := #[true, true, true, true, true, true, true, true, true, true, true, true, true, true, true, true, true, true, true, true, true, true, false, false, false, false, false, false, false, false, false, false]) rfl (guard_off rfl rfl rfl hg786) rfl rfl (by kernel_rfl) hS ?_
      refine drw_off (i := 22) (l' := #[true, true, true, true, true, true, true, true, true, true, true, true, true, true, true, true, true, true, true, true, true, true, true, false, false, false, false, false, false, false, false, false]) rfl (guard_off rfl rfl rfl hg786) rfl rfl (by kernel_rfl) hS ?_
      refine drw_off (i := 23) (l' := #[true, true, true, true, true, true, true, true, true, true, true, true, true, true, true, true, true, true, true, true, true, true, true, true, false, false, false, false, false, false, false, false]) rfl (guard_off rfl rfl rfl hg786) rfl rfl (by kernel_rfl) hS ?_
      refine drw_off (i := 24) (l' := #[true, true, true, true, true, true, true, true, true, true, true, true, true, true, true, true, true, true, true, true, true, true, true, true, true, false, false, false, false, false, false, false]) rfl (guard_off rfl rfl rfl hg786) rfl rfl (by kernel_rfl) hS ?_
      refine drw_off (i := 25) (l' := #[true, true, true, true, true, true, true, true, true, true, true, true, true, true, true, true, true, true, true, true, true, true, true, true, true, true, false, false, false, false, false, false]) rfl (guard_off rfl rfl rfl hg786) rfl rfl (by kernel_rfl) hS ?_
      refine drw_off (i := 26) (l' := #[true, true, true, true, true, true, true, true, true, true, true, true, true, true, true, true, true, true, true, true, true, true, true, true, true, true, true, false, false, false, false, false]) rfl (guard_off rfl rfl rfl hg786) rfl rfl (by kernel_rfl) hS ?_
      refine drw_off (i := 27) (l' := #[true, true, true, true, true, true, true, true, true, true, true, true, true, true, true, true, true, true, true, true, true, true, true, true, true, true, true, true, false, false, false, false]) rfl (guard_off rfl rfl rfl hg786) rfl rfl (by kernel_rfl) hS ?_
      refine drw_off (i := 28) (l' := #[true, true, true, true, true, true, true, true, true, true, true, true, true, true, true, true, true, true, true, true, true, true, true, true, true, true, true, true, true, false, false, false]) rfl (guard_off rfl rfl rfl hg786) rfl rfl (by kernel_rfl) hS ?_
      refine drw_off (i := 29) (l' := #[true, true, true, true, true, true, true, true, true, true, true, true, true, true, true, true, true, true, true, true, true, true, true, true, true, true, true, true, true, true, false, false]) rfl (guard_off rfl rfl rfl hg786) rfl rfl (by kernel_rfl) hS ?_
      have hg787 : (((x0.fNeed == x1.fNeed) && (x0.fAfter == x1.fAfter)) && t780) = false := by simp only [hg786, Bool.and_true, Bool.true_and, Bool.and_false, Bool.false_and, Bool.or_true, Bool.true_or, Bool.or_false, Bool.false_or, Bool.not_true, Bool.not_false, Bool.not_not]
      refine drw_take (i := 30) (v := .bool (((x0.fNeed == x1.fNeed) && (x0.fAfter == x1.fAfter)) && t780)) (l' := #[true, true, true, true, true, true, true, true, true, true, true, true, true, true, true, true, true, true, true, true, true, true, true, true, true, true, true, true, true, true, true, false]) rfl (guard_none rfl) rfl rfl (by kernel_rfl) (fun w_ hS_ => (ex_pand_f rfl rfl hg786)) hS ?_
      refine drw_take (i := 31) (l' := #[true, true, true, true, true, true, true, true, true, true, true, true, true, true, true, true, true, true, true, true, true, true, true, true, true, true, true, true, true, true, true, true]) rfl (guard_none rfl) rfl rfl (by kernel_rfl) (fun w_ hS_ => (ex_assign rfl rfl)) hS ?_
      refine drw_done (by kernel_rfl) ?_
      exact at_meet [(4, .bool (((x0.fNeed == x1.fNeed) && (x0.fAfter == x1.fAfter)) && t780))] ⟨rfl, HM⟩ (Sub.cons rfl Sub.nil)
  · rintro _ w788 ⟨rfl, HM⟩
    refine at_then ?_
    refine run_ret ?_
    have hR := Option.some.inj H
    subst hR
    exact at_ret1 rfl rfl ⟨_, rfl, rfl, HM⟩
end Go.Proofs.Ytkofpnbacgccnaa.Zk
