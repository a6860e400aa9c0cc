/- What functions of the program compute, each as a plain function, and that they do. Conditions: as each theorem states them. -/
import Derived.Test.YtkofpnbacgccnaaZkF3
namespace Go.Proofs.Ytkofpnbacgccnaa.Zk
open Go Go.RowKit Go.IntWalk Go.Proofs
set_option linter.unusedVariables false
set_option linter.unusedSimpArgs false
set_option maxRecDepth 100000
def spec_MembersFault.f (k : Nat) (x0 : List Member) : Option Int := ((spec_l6Fault.f k x0).bind fun t2078 => some t2078)
theorem spec_MembersFault.calls {k : Nat} {x0 : List Member} {p0 : Value} {w : World} (hp0 : RdS kMember w p0 x0) {r : Int} (H : spec_MembersFault.f k x0 = some r) :
    Calls Try.prog 32 ([p0] : List Value).toArray w (fun e w_ => ∃ v, e = .returned v ∧ v = (.int .i64 r) ∧ Mem w [] w_ []) := by
  have HM := Mem.start w
  refine calls_run (N := 5) Try.func32 rfl rfl rfl rfl ?_
  unfold spec_MembersFault.f at H
  refine run_seq ?_
  refine run_region rfl ?_
  refine ops_ex rfl (guard_none rfl) rfl rfl (ex_assign rfl rfl) ?_
  refine ops_nil ?_
  refine at_then ?_
  refine run_seq ?_
  obtain ⟨t2078, h2079, H⟩ := bind_some H
  refine run_region rfl ?_
  refine ops_ex rfl (guard_none rfl) rfl rfl (ex_move rfl rfl) ?_
  refine ops_does rfl (guard_none rfl) rfl rfl (does_callk rfl callok73 rfl (spec_l6Fault.calls (x0 := x0) (HM.rd hp0) h2079)) ?_
  rintro _ w2080 ⟨rfl, hn⟩
  replace HM : Mem w [] w2080 [] := HM.call hn
  refine ops_ex rfl (guard_none rfl) rfl rfl (ex_assign rfl rfl) ?_
  refine ops_nil ?_
  refine at_then ?_
  refine run_ret ?_
  have hR := Option.some.inj H
  subst hR
  exact at_ret1 rfl rfl ⟨_, rfl, rfl, HM⟩

def impl_isId.f (k : Nat) (x0 : Int) : Option Bool := ((impl_within.f k x0 1 60).bind fun t2102 => some t2102)
theorem impl_isId.calls {k : Nat} {x0 : Int}  {w : World}  {r : Bool} (H : impl_isId.f k x0 = some r) :
    Calls Try.prog 79 ([.int .i64 x0] : List Value).toArray w (fun e w_ => ∃ v, e = .returned v ∧ v = (.bool r) ∧ Mem w [] w_ []) := by
  have HM := Mem.start w
  refine calls_run (N := 5) Try.func79 rfl rfl rfl rfl ?_
  unfold impl_isId.f at H
  refine run_seq ?_
  refine run_region rfl ?_
  refine ops_ex rfl (guard_none rfl) rfl rfl (ex_assign rfl rfl) ?_
  refine ops_nil ?_
  refine at_then ?_
  refine run_seq ?_
  obtain ⟨t2102, h2103, H⟩ := bind_some H
  refine run_region rfl ?_
  refine ops_ex rfl (guard_none rfl) rfl rfl (ex_move rfl rfl) ?_
  refine ops_does rfl (guard_none rfl) rfl rfl (does_callk rfl callok58 rfl (impl_within.calls (x0 := x0) (x1 := 1) (x2 := 60) h2103)) ?_
  rintro _ w2104 ⟨rfl, hn⟩
  replace HM : Mem w [] w2104 [] := HM.call hn
  refine ops_ex rfl (guard_none rfl) rfl rfl (ex_assign rfl rfl) ?_
  refine ops_nil ?_
  refine at_then ?_
  refine run_ret ?_
  have hR := Option.some.inj H
  subst hR
  exact at_ret1 rfl rfl ⟨_, rfl, rfl, HM⟩

def impl_isRef.f (k : Nat) (x0 : Ref) : Option Bool := ((impl_isId.f k x0.fTx).bind fun t2113 => ((bif t2113 then impl_within.f k x0.fAt 0 3 else some default).bind fun t2115 => some (t2113 && t2115)))
theorem impl_isRef.calls {k : Nat} {x0 : Ref}  {w : World}  {r : Bool} (H : impl_isRef.f k x0 = some r) :
    Calls Try.prog 75 ([.agg #[(.int .i64 x0.fTx), (.int .i64 x0.fAt)]] : List Value).toArray w (fun e w_ => ∃ v, e = .returned v ∧ v = (.bool r) ∧ Mem w [] w_ []) := by
  have HM := Mem.start w
  refine calls_run (N := 11) Try.func75 rfl rfl rfl rfl ?_
  unfold impl_isRef.f at H
  refine run_seq ?_
  refine run_region rfl ?_
  refine ops_does rfl (guard_none rfl) rfl rfl (does_box (cs := [.int .i64 x0.fTx, .int .i64 x0.fAt]) rfl rfl rfl HM) ?_
  rintro _ w2112 ⟨b2109, rfl, HM⟩
  refine ops_ex rfl (guard_none rfl) rfl rfl (ex_assign rfl rfl) ?_
  refine ops_nil ?_
  refine at_then ?_
  refine run_seq ?_
  obtain ⟨t2113, h2114, H⟩ := bind_some H
  obtain ⟨t2115, h2116, H⟩ := bind_some H
  refine run_meet (fun ρ_ w_ => ρ_ = [(2, .bool (t2113 && t2115))] ∧ Mem w [] w_ []) ?_ ?_
  · skip
    refine run_region rfl ?_
    refine ops_ex rfl (guard_none rfl) rfl rfl (ex_fieldAddr (off' := 0) rfl rfl Try.underlying69 rfl tsz2 rfl) ?_
    refine ops_ex rfl (guard_none rfl) rfl rfl (ex_load1 rfl rfl Try.underlying2 rfl ((HM.box_at 0 rfl) 0 _ rfl)) ?_
    refine ops_does rfl (guard_none rfl) rfl rfl (does_callk rfl callok79 rfl (impl_isId.calls (x0 := x0.fTx) h2114)) ?_
    rintro _ w2117 ⟨rfl, hn⟩
    replace HM : Mem w [] w2117 [box b2109 69 [.int .i64 x0.fTx, .int .i64 x0.fAt]] := HM.call hn
    refine ops_ex rfl (guard_none rfl) rfl rfl (ex_move rfl rfl) ?_
    refine bool_cases t2113 (fun hg2118 => ?_) (fun hg2118 => ?_)
    · skip
      refine ops_ex rfl (guard_on rfl rfl rfl hg2118) rfl rfl (ex_fieldAddr (off' := 1) rfl rfl Try.underlying69 rfl tsz2 rfl) ?_
      refine ops_ex rfl (guard_on rfl rfl rfl hg2118) rfl rfl (ex_load1 rfl rfl Try.underlying2 rfl ((HM.box_at 0 rfl) 1 _ rfl)) ?_
      refine ops_does rfl (guard_on rfl rfl rfl hg2118) rfl rfl (does_callk rfl callok58 rfl (impl_within.calls (x0 := x0.fAt) (x1 := 0) (x2 := 3) (cond_t hg2118 h2116))) ?_
      rintro _ w2119 ⟨rfl, hn⟩
      replace HM : Mem w [] w2119 [box b2109 69 [.int .i64 x0.fTx, .int .i64 x0.fAt]] := HM.call hn
      refine ops_ex (v := .bool (t2113 && t2115)) rfl (guard_none rfl) rfl rfl (ex_pand_t rfl rfl hg2118 rfl) ?_
      refine ops_ex rfl (guard_none rfl) rfl rfl (ex_assign rfl rfl) ?_
      refine ops_nil ?_
      replace HM := (HM.front 0 rfl rfl).drop
      exact at_meet [(2, .bool (t2113 && t2115))] ⟨rfl, HM⟩ (Sub.cons rfl Sub.nil)
    · skip
      refine ops_off rfl (guard_off rfl rfl rfl hg2118) rfl rfl ?_
      refine ops_off rfl (guard_off rfl rfl rfl hg2118) rfl rfl ?_
      refine ops_off rfl (guard_off rfl rfl rfl hg2118) rfl rfl ?_
      have hg2120 : (t2113 && t2115) = false := by simp only [hg2118, Bool.and_true, Bool.true_and, Bool.and_false, Bool.false_and, Bool.or_true, Bool.true_or, Bool.or_false, Bool.false_or, Bool.not_true, Bool.not_false, Bool.not_not]
      refine ops_ex (v := .bool (t2113 && t2115)) rfl (guard_none rfl) rfl rfl (ex_pand_f rfl rfl hg2118) ?_
      refine ops_ex rfl (guard_none rfl) rfl rfl (ex_assign rfl rfl) ?_
      refine ops_nil ?_
      replace HM := (HM.front 0 rfl rfl).drop
      exact at_meet [(2, .bool (t2113 && t2115))] ⟨rfl, HM⟩ (Sub.cons rfl Sub.nil)
  · rintro _ w2121 ⟨rfl, HM⟩
    refine at_then ?_
    refine run_ret ?_
    have hR := Option.some.inj H
    subst hR
    exact at_ret1 rfl rfl ⟨_, rfl, rfl, HM⟩

def impl_MembersFault_1.f (k : Nat) (x0 : Member) (x1 : Member) : Option Bool := some ((x0.fRef.fTx == x1.fRef.fTx) && (x0.fRef.fAt == x1.fRef.fAt))
theorem impl_MembersFault_1.calls {k : Nat} {x0 : Member} {x1 : Member} {b1 f1 : Nat} {w : World} (hc1 : CellsAt w b1 f1 [.int .i64 x1.fKey, .int .i64 x1.fRef.fTx, .int .i64 x1.fRef.fAt]) {r : Bool} (H : impl_MembersFault_1.f k x0 x1 = some r) :
    Calls Try.prog 77 ([.agg #[(.int .i64 x0.fKey), (.int .i64 x0.fRef.fTx), (.int .i64 x0.fRef.fAt)], .pointer (some ⟨b1, f1, none⟩)] : List Value).toArray w (fun e w_ => ∃ v, e = .returned v ∧ v = (.bool r) ∧ Mem w [] w_ []) := by
  have HM := Mem.start w
  refine calls_run (N := 9) Try.func77 rfl rfl rfl rfl ?_
  unfold impl_MembersFault_1.f at H
  refine run_seq ?_
  refine run_region rfl ?_
  refine ops_does rfl (guard_none rfl) rfl rfl (does_box (cs := [.int .i64 x0.fKey, .int .i64 x0.fRef.fTx, .int .i64 x0.fRef.fAt]) rfl rfl rfl HM) ?_
  rintro _ w2193 ⟨b2190, rfl, HM⟩
  refine ops_ex rfl (guard_none rfl) rfl rfl (ex_assign rfl rfl) ?_
  refine ops_nil ?_
  refine at_then ?_
  refine run_seq ?_
  refine run_region rfl ?_
  refine ops_ex rfl (guard_none rfl) rfl rfl (ex_fieldAddr (off' := 1) rfl rfl Try.underlying94 rfl tsz69 rfl) ?_
  refine ops_ex rfl (guard_none rfl) rfl rfl (ex_loadN (cs := [(.int .i64 x0.fRef.fTx), (.int .i64 x0.fRef.fAt)]) rfl rfl Try.underlying69 rfl tsz69 rfl ((HM.box_at 0 rfl).sub 1 2 rfl)) ?_
  refine ops_ex rfl (guard_none rfl) rfl rfl (ex_fieldAddr (off' := f1 + 1) rfl rfl Try.underlying94 rfl tsz69 rfl) ?_
  refine ops_ex rfl (guard_none rfl) rfl rfl (ex_loadN (cs := [(.int .i64 x1.fRef.fTx), (.int .i64 x1.fRef.fAt)]) rfl rfl Try.underlying69 rfl tsz69 rfl ((HM.at_ hc1).sub 1 2 rfl)) ?_
  refine ops_ex rfl (guard_none rfl) rfl rfl (ex_aeql rfl rfl rfl (by kernel_rfl) (eqs69 _ _ _ _ _)) ?_
  refine ops_ex rfl (guard_none rfl) rfl rfl (ex_assign rfl rfl) ?_
  refine ops_nil ?_
  refine at_then ?_
  refine run_ret ?_
  replace HM := (HM.front 0 rfl rfl).drop
  have hR := Option.some.inj H
  subst hR
  exact at_ret1 rfl rfl ⟨_, rfl, rfl, HM⟩

def slices_IndexFunc_impl_Member.l0 (x0 : List Member) (x1_0 : Member) : Nat → Int → Option (Int ⊕ Unit)
  | 0, _ => none
  | k + 1, a2239 => (bif (decide (a2239 < (x0.length : Int))) then (chk (idxOk a2239 x0.length) ((impl_MembersFault_1.f k (gt x0 a2239) x1_0).bind fun t2251 => (bif t2251 then some (.inl a2239) else slices_IndexFunc_impl_Member.l0 x0 x1_0 k (wrap64 (a2239 + 1))))) else some (.inr ()))
theorem slices_IndexFunc_impl_Member.l0_z (x0 : List Member) (x1_0 : Member) (a2239 : Int) : slices_IndexFunc_impl_Member.l0 x0 x1_0 0 a2239 = none := rfl
theorem slices_IndexFunc_impl_Member.l0_s (x0 : List Member) (x1_0 : Member) (k : Nat) (a2239 : Int) : slices_IndexFunc_impl_Member.l0 x0 x1_0 (k + 1) a2239 = (bif (decide (a2239 < (x0.length : Int))) then (chk (idxOk a2239 x0.length) ((impl_MembersFault_1.f k (gt x0 a2239) x1_0).bind fun t2251 => (bif t2251 then some (.inl a2239) else slices_IndexFunc_impl_Member.l0 x0 x1_0 k (wrap64 (a2239 + 1))))) else some (.inr ())) := rfl
def slices_IndexFunc_impl_Member.f (k : Nat) (x0 : List Member) (x1_0 : Member) : Option Int := ((slices_IndexFunc_impl_Member.l0 x0 x1_0 k 0).bind fun o2231 => thn o2231 (fun r => some r) (fun _ => some (-1)))
theorem slices_IndexFunc_impl_Member.calls {k : Nat} {x0 : List Member} {x1_0 : Member} {p0 : Value} {b1_0 f1_0 : Nat} {w : World} (hp0 : RdS kMember w p0 x0) (hc1_0 : CellsAt w b1_0 f1_0 [.int .i64 x1_0.fKey, .int .i64 x1_0.fRef.fTx, .int .i64 x1_0.fRef.fAt]) {r : Int} (H : slices_IndexFunc_impl_Member.f k x0 x1_0 = some r) :
    Calls Try.prog 109 ([p0, .func (.func 77) #[] #[(.pointer (some ⟨b1_0, f1_0, none⟩))]] : List Value).toArray w (fun e w_ => ∃ v, e = .returned v ∧ v = (.int .i64 r) ∧ Mem w [] w_ []) := by
  have HM := Mem.start w
  refine calls_run (N := 19) Try.func109 rfl rfl rfl rfl ?_
  unfold slices_IndexFunc_impl_Member.f at H
  refine run_seq ?_
  refine run_region rfl ?_
  refine ops_ex rfl (guard_none rfl) rfl rfl (ex_assign rfl rfl) ?_
  refine ops_nil ?_
  refine at_then ?_
  obtain ⟨o2231, ho2232, H⟩ := bind_some H
  refine run_mid (fun ρ_ w_ => Sum.inr () = o2231 ∧ ρ_ = [] ∧ Mem w [] w_ []) ?_ ?_
  · skip
    refine run_seq ?_
    refine run_region rfl ?_
    refine ops_ex rfl (guard_none rfl) rfl rfl (ex_move rfl rfl) ?_
    refine ops_ex rfl (guard_none rfl) rfl rfl (ex_len (d := kMember) (xs := x0) rfl rfl Try.underlying31 hp0) ?_
    refine ops_ex rfl (guard_none rfl) rfl rfl (ex_move rfl rfl) ?_
    refine ops_nil ?_
    refine at_then ?_
    refine run_block ?_
    refine run_loop (fun k_ ρ_ w_ => ∃ a2239 : Int, slices_IndexFunc_impl_Member.l0 x0 x1_0 k_ a2239 = some o2231 ∧ ρ_ = [(0, p0), (1, .func (.func 77) #[] #[(.pointer (some ⟨b1_0, f1_0, none⟩))]), (7, .int .i64 (x0.length : Int)), (8, .int .i64 a2239)] ∧ Mem w [] w_ []) k (ρ1 := [(0, p0), (1, .func (.func 77) #[] #[(.pointer (some ⟨b1_0, f1_0, none⟩))]), (7, .int .i64 (x0.length : Int)), (8, .int .i64 0)]) ⟨_, ho2232, rfl, HM⟩ (Sub.cons rfl (Sub.cons rfl (Sub.cons rfl (Sub.cons rfl Sub.nil)))) ?_
    clear HM ho2232
    rintro k2246 _ w2247 ⟨a2239, ho2232, rfl, HM⟩
    obtain _ | k2246 := k2246
    · exact nomatch ((slices_IndexFunc_impl_Member.l0_z x0 x1_0 a2239).symm.trans ho2232)
    replace ho2232 := (slices_IndexFunc_impl_Member.l0_s x0 x1_0 k2246 a2239).symm.trans ho2232
    refine run_seq ?_
    refine run_region rfl ?_
    refine ops_ex rfl (guard_none rfl) rfl rfl (ex_lss rfl rfl rfl) ?_
    refine ops_nil ?_
    refine at_then ?_
    refine run_seq ?_
    refine run_cond (b := (decide (a2239 < (x0.length : Int)))) rfl (fun hb2248 => ?_) (fun hb2248 => ?_)
    · replace ho2232 := cond_t hb2248 ho2232
      refine run_skip ?_
      refine at_then ?_
      refine run_seq ?_
      refine run_block ?_
      refine run_seq ?_
      refine run_region rfl ?_
      refine ops_ex rfl (guard_none rfl) rfl rfl (ex_move rfl rfl) ?_
      refine ops_ex rfl (guard_none rfl) rfl rfl (ex_assign rfl rfl) ?_
      refine ops_nil ?_
      refine at_then ?_
      refine run_seq ?_
      obtain ⟨e2249, ho2232⟩ := chk_some ho2232
      obtain ⟨t2251, h2252, ho2232⟩ := bind_some ho2232
      refine run_region rfl ?_
      refine ops_ex rfl (guard_none rfl) rfl rfl (ex_move rfl rfl) ?_
      refine ops_ex rfl (guard_none rfl) rfl rfl (ex_move rfl rfl) ?_
      refine ops_ex rfl (guard_none rfl) rfl rfl (ex_move rfl rfl) ?_
      have hc2250 : CellsAt _ (sb p0) (so p0 + (a2239).toNat * 3) [(.int .i64 ((gt x0 a2239).fKey)), (.int .i64 ((gt x0 a2239).fRef.fTx)), (.int .i64 ((gt x0 a2239).fRef.fAt))] := rd_plain hp0 e2249
      refine ops_ex rfl (guard_none rfl) rfl rfl (ex_indexAddr (d := kMember) rfl rfl rfl Try.underlying31 tsz94 hp0 (idx_lo e2249) (idx_hi e2249)) ?_
      refine ops_ex rfl (guard_none rfl) rfl rfl (ex_loadN (cs := [(.int .i64 ((gt x0 a2239).fKey)), (.int .i64 ((gt x0 a2239).fRef.fTx)), (.int .i64 ((gt x0 a2239).fRef.fAt))]) rfl rfl Try.underlying94 rfl tsz94 rfl ((HM.at_ hc2250).sub 0 3 rfl)) ?_
      refine ops_does rfl (guard_none rfl) rfl rfl (does_callvk rfl callok77 rfl rfl rfl (impl_MembersFault_1.calls (x0 := (gt x0 a2239)) (x1 := x1_0) (HM.at_ hc1_0) h2252)) ?_
      rintro _ w2253 ⟨rfl, hn⟩
      replace HM : Mem w [] w2253 [] := HM.call hn
      refine ops_nil ?_
      refine at_then ?_
      refine run_cond (b := t2251) rfl (fun hb2254 => ?_) (fun hb2254 => ?_)
      · replace ho2232 := cond_t hb2254 ho2232
        refine run_seq ?_
        refine run_region rfl ?_
        refine ops_ex rfl (guard_none rfl) rfl rfl (ex_move rfl rfl) ?_
        refine ops_ex rfl (guard_none rfl) rfl rfl (ex_assign rfl rfl) ?_
        refine ops_nil ?_
        refine at_then ?_
        refine run_ret ?_
        refine at_block_ret ?_
        refine at_then_ret ?_
        refine at_then_ret ?_
        refine at_block_ret ?_
        refine at_then_ret ?_
        have hR := Option.some.inj ho2232
        subst hR
        have hT := thn_inl H
        have hR := Option.some.inj hT
        subst hR
        exact at_ret1 rfl rfl ⟨_, rfl, rfl, HM⟩
      · replace ho2232 := cond_f hb2254 ho2232
        refine run_skip ?_
        refine at_block ?_
        refine at_then ?_
        refine run_region rfl ?_
        refine ops_ex rfl (guard_none rfl) rfl rfl (ex_add rfl rfl rfl) ?_
        refine ops_ex rfl (guard_none rfl) rfl rfl (ex_move rfl rfl) ?_
        refine ops_nil ?_
        exact at_again k2246 (ρ1 := [(0, p0), (1, .func (.func 77) #[] #[(.pointer (some ⟨b1_0, f1_0, none⟩))]), (7, .int .i64 (x0.length : Int)), (8, .int .i64 (wrap64 (a2239 + 1)))]) (Nat.lt_succ_self _) ⟨_, ho2232, rfl, HM⟩ (Sub.cons rfl (Sub.cons rfl (Sub.cons rfl (Sub.cons rfl Sub.nil))))
    · replace ho2232 := cond_f hb2248 ho2232
      refine run_exit ?_
      refine at_then_exit ?_
      refine at_then_exit ?_
      refine at_block_exit ?_
      exact at_mid (ρ' := []) ⟨(Option.some.inj ho2232), rfl, HM⟩ Sub.nil
  · rintro _ w2255 ⟨rfl, rfl, HM⟩
    replace H := (thn_inr H)
    refine run_seq ?_
    refine run_region rfl ?_
    refine ops_ex rfl (guard_none rfl) rfl rfl (ex_assign rfl rfl) ?_
    refine ops_nil ?_
    refine at_then ?_
    refine run_ret ?_
    have hR := Option.some.inj H
    subst hR
    exact at_ret1 rfl rfl ⟨_, rfl, rfl, HM⟩

def slices_ContainsFunc_impl_Member.f (k : Nat) (x0 : List Member) (x1_0 : Member) : Option Bool := ((slices_IndexFunc_impl_Member.f k x0 x1_0).bind fun t2258 => some (decide (0 ≤ t2258)))
theorem slices_ContainsFunc_impl_Member.calls {k : Nat} {x0 : List Member} {x1_0 : Member} {p0 : Value} {b1_0 f1_0 : Nat} {w : World} (hp0 : RdS kMember w p0 x0) (hc1_0 : CellsAt w b1_0 f1_0 [.int .i64 x1_0.fKey, .int .i64 x1_0.fRef.fTx, .int .i64 x1_0.fRef.fAt]) {r : Bool} (H : slices_ContainsFunc_impl_Member.f k x0 x1_0 = some r) :
    Calls Try.prog 76 ([p0, .func (.func 77) #[] #[(.pointer (some ⟨b1_0, f1_0, none⟩))]] : List Value).toArray w (fun e w_ => ∃ v, e = .returned v ∧ v = (.bool r) ∧ Mem w [] w_ []) := by
  have HM := Mem.start w
  refine calls_run (N := 9) Try.func76 rfl rfl rfl rfl ?_
  unfold slices_ContainsFunc_impl_Member.f at H
  refine run_seq ?_
  refine run_region rfl ?_
  refine ops_ex rfl (guard_none rfl) rfl rfl (ex_assign rfl rfl) ?_
  refine ops_nil ?_
  refine at_then ?_
  refine run_seq ?_
  obtain ⟨t2258, h2259, H⟩ := bind_some H
  refine run_region rfl ?_
  refine ops_ex rfl (guard_none rfl) rfl rfl (ex_move rfl rfl) ?_
  refine ops_ex rfl (guard_none rfl) rfl rfl (ex_move rfl rfl) ?_
  refine ops_does rfl (guard_none rfl) rfl rfl (does_callk rfl callok109 rfl (slices_IndexFunc_impl_Member.calls (x0 := x0) (x1_0 := x1_0) (HM.rd hp0) (HM.at_ hc1_0) h2259)) ?_
  rintro _ w2260 ⟨rfl, hn⟩
  replace HM : Mem w [] w2260 [] := HM.call hn
  refine ops_ex rfl (guard_none rfl) rfl rfl (ex_geq rfl rfl rfl) ?_
  refine ops_ex rfl (guard_none rfl) rfl rfl (ex_assign rfl rfl) ?_
  refine ops_nil ?_
  refine at_then ?_
  refine run_ret ?_
  have hR := Option.some.inj H
  subst hR
  exact at_ret1 rfl rfl ⟨_, rfl, rfl, HM⟩

def impl_MembersFault.l0 (x0 : List Member) : Nat → Int → Option (Int ⊕ Unit)
  | 0, _ => none
  | k + 1, a2374 => (bif (decide (a2374 < (x0.length : Int))) then (chk (idxOk a2374 x0.length) ((impl_isKey.f k ((gt x0 a2374).fKey)).bind fun t2409 => ((bif (!(!t2409)) then impl_isRef.f k ((gt x0 a2374).fRef) else some default).bind fun t2411 => (bif ((!t2409) || (!t2411)) then some (.inl 3) else (chk (!(decide (0 < a2374)) || (idxOk (wrap64 (a2374 - 1)) x0.length)) (bif ((decide (0 < a2374)) && (decide (((gt x0 a2374).fKey) ≤ ((gt x0 (wrap64 (a2374 - 1))).fKey)))) then some (.inl 1) else impl_MembersFault.l0 x0 k (wrap64 (a2374 + 1)))))))) else some (.inr ()))
theorem impl_MembersFault.l0_z (x0 : List Member) (a2374 : Int) : impl_MembersFault.l0 x0 0 a2374 = none := rfl
theorem impl_MembersFault.l0_s (x0 : List Member) (k : Nat) (a2374 : Int) : impl_MembersFault.l0 x0 (k + 1) a2374 = (bif (decide (a2374 < (x0.length : Int))) then (chk (idxOk a2374 x0.length) ((impl_isKey.f k ((gt x0 a2374).fKey)).bind fun t2409 => ((bif (!(!t2409)) then impl_isRef.f k ((gt x0 a2374).fRef) else some default).bind fun t2411 => (bif ((!t2409) || (!t2411)) then some (.inl 3) else (chk (!(decide (0 < a2374)) || (idxOk (wrap64 (a2374 - 1)) x0.length)) (bif ((decide (0 < a2374)) && (decide (((gt x0 a2374).fKey) ≤ ((gt x0 (wrap64 (a2374 - 1))).fKey)))) then some (.inl 1) else impl_MembersFault.l0 x0 k (wrap64 (a2374 + 1)))))))) else some (.inr ())) := rfl
def impl_MembersFault.l1 (x0 : List Member) : Nat → Int → Option (Int ⊕ Unit)
  | 0, _ => none
  | k + 1, a2481 => (bif (decide (a2481 < (x0.length : Int))) then (chk (idxOk a2481 x0.length) (chk (cutOk a2481 x0.length) ((slices_ContainsFunc_impl_Member.f k (x0.take (a2481).toNat) (gt x0 a2481)).bind fun t2509 => (bif t2509 then some (.inl 7) else impl_MembersFault.l1 x0 k (wrap64 (a2481 + 1)))))) else some (.inr ()))
theorem impl_MembersFault.l1_z (x0 : List Member) (a2481 : Int) : impl_MembersFault.l1 x0 0 a2481 = none := rfl
theorem impl_MembersFault.l1_s (x0 : List Member) (k : Nat) (a2481 : Int) : impl_MembersFault.l1 x0 (k + 1) a2481 = (bif (decide (a2481 < (x0.length : Int))) then (chk (idxOk a2481 x0.length) (chk (cutOk a2481 x0.length) ((slices_ContainsFunc_impl_Member.f k (x0.take (a2481).toNat) (gt x0 a2481)).bind fun t2509 => (bif t2509 then some (.inl 7) else impl_MembersFault.l1 x0 k (wrap64 (a2481 + 1)))))) else some (.inr ())) := rfl
def impl_MembersFault.f (k : Nat) (x0 : List Member) : Option Int := (bif (decide (8 < (x0.length : Int))) then some 2 else ((impl_MembersFault.l0 x0 k 0).bind fun o2353 => thn o2353 (fun r => some r) (fun _ => ((impl_MembersFault.l1 x0 k 0).bind fun o2466 => thn o2466 (fun r => some r) (fun _ => some 0)))))
theorem impl_MembersFault.calls {k : Nat} {x0 : List Member} {p0 : Value} {w : World} (hp0 : RdS kMember w p0 x0) {r : Int} (H : impl_MembersFault.f k x0 = some r) :
    Calls Try.prog 33 ([p0] : List Value).toArray w (fun e w_ => ∃ v, e = .returned v ∧ v = (.int .i64 r) ∧ Mem w [] w_ []) := by
  have HM := Mem.start w
  refine calls_run (N := 54) Try.func33 rfl rfl rfl rfl ?_
  unfold impl_MembersFault.f at H
  refine run_seq ?_
  refine run_region rfl ?_
  refine ops_ex rfl (guard_none rfl) rfl rfl (ex_assign rfl rfl) ?_
  refine ops_nil ?_
  refine at_then ?_
  refine run_seq ?_
  refine run_seq ?_
  refine run_region rfl ?_
  refine ops_ex rfl (guard_none rfl) rfl rfl (ex_move rfl rfl) ?_
  refine ops_ex rfl (guard_none rfl) rfl rfl (ex_len (d := kMember) (xs := x0) rfl rfl Try.underlying31 hp0) ?_
  refine ops_ex rfl (guard_none rfl) rfl rfl (ex_gtr rfl rfl rfl) ?_
  refine ops_nil ?_
  refine at_then ?_
  refine run_cond (b := (decide (8 < (x0.length : Int)))) rfl (fun hb2294 => ?_) (fun hb2294 => ?_)
  · replace H := cond_t hb2294 H
    refine run_seq ?_
    refine run_region rfl ?_
    refine ops_ex rfl (guard_none rfl) rfl rfl (ex_assign rfl rfl) ?_
    refine ops_nil ?_
    refine at_then ?_
    refine run_ret ?_
    refine at_then_ret ?_
    have hR := Option.some.inj H
    subst hR
    exact at_ret1 rfl rfl ⟨_, rfl, rfl, HM⟩
  · replace H := cond_f hb2294 H
    refine run_skip ?_
    refine at_then ?_
    obtain ⟨o2353, ho2354, H⟩ := bind_some H
    refine run_mid (fun ρ_ w_ => Sum.inr () = o2353 ∧ ρ_ = [(0, p0)] ∧ Mem w [] w_ []) ?_ ?_
    · skip
      refine run_seq ?_
      refine run_region rfl ?_
      refine ops_ex rfl (guard_none rfl) rfl rfl (ex_move rfl rfl) ?_
      refine ops_ex rfl (guard_none rfl) rfl rfl (ex_len (d := kMember) (xs := x0) rfl rfl Try.underlying31 hp0) ?_
      refine ops_ex rfl (guard_none rfl) rfl rfl (ex_move rfl rfl) ?_
      refine ops_nil ?_
      refine at_then ?_
      refine run_block ?_
      refine run_loop (fun k_ ρ_ w_ => ∃ a2374 : Int, impl_MembersFault.l0 x0 k_ a2374 = some o2353 ∧ ρ_ = [(0, p0), (10, p0), (11, .int .i64 (x0.length : Int)), (12, .int .i64 a2374)] ∧ Mem w [] w_ []) k (ρ1 := [(0, p0), (10, p0), (11, .int .i64 (x0.length : Int)), (12, .int .i64 0)]) ⟨_, ho2354, rfl, HM⟩ (Sub.cons rfl (Sub.cons rfl (Sub.cons rfl (Sub.cons rfl Sub.nil)))) ?_
      clear HM ho2354
      rintro k2394 _ w2395 ⟨a2374, ho2354, rfl, HM⟩
      obtain _ | k2394 := k2394
      · exact nomatch ((impl_MembersFault.l0_z x0 a2374).symm.trans ho2354)
      replace ho2354 := (impl_MembersFault.l0_s x0 k2394 a2374).symm.trans ho2354
      refine run_seq ?_
      refine run_region rfl ?_
      refine ops_ex rfl (guard_none rfl) rfl rfl (ex_lss rfl rfl rfl) ?_
      refine ops_nil ?_
      refine at_then ?_
      refine run_seq ?_
      refine run_cond (b := (decide (a2374 < (x0.length : Int)))) rfl (fun hb2396 => ?_) (fun hb2396 => ?_)
      · replace ho2354 := cond_t hb2396 ho2354
        refine run_skip ?_
        refine at_then ?_
        refine run_seq ?_
        refine run_block ?_
        refine run_seq ?_
        obtain ⟨e2397, ho2354⟩ := chk_some ho2354
        refine run_region rfl ?_
        refine ops_ex rfl (guard_none rfl) rfl rfl (ex_move rfl rfl) ?_
        have hc2398 : CellsAt _ (sb p0) (so p0 + (a2374).toNat * 3) [(.int .i64 ((gt x0 a2374).fKey)), (.int .i64 ((gt x0 a2374).fRef.fTx)), (.int .i64 ((gt x0 a2374).fRef.fAt))] := rd_plain hp0 e2397
        refine ops_ex rfl (guard_none rfl) rfl rfl (ex_indexAddr (d := kMember) rfl rfl rfl Try.underlying31 tsz94 hp0 (idx_lo e2397) (idx_hi e2397)) ?_
        refine ops_ex rfl (guard_none rfl) rfl rfl (ex_loadN (cs := [(.int .i64 ((gt x0 a2374).fKey)), (.int .i64 ((gt x0 a2374).fRef.fTx)), (.int .i64 ((gt x0 a2374).fRef.fAt))]) rfl rfl Try.underlying94 rfl tsz94 rfl ((HM.at_ hc2398).sub 0 3 rfl)) ?_
        refine ops_does rfl (guard_none rfl) rfl rfl (does_alloc (cs := [.int .i64 0, .int .i64 0, .int .i64 0]) rfl tz94 rfl HM) ?_
        rintro _ w2402 ⟨b2399, rfl, HM⟩
        refine ops_ex rfl (guard_none rfl) rfl rfl (ex_assign rfl rfl) ?_
        refine ops_doesS rfl (guard_none rfl) rfl (does_store (vs := [.int .i64 ((gt x0 a2374).fKey), .int .i64 ((gt x0 a2374).fRef.fTx), .int .i64 ((gt x0 a2374).fRef.fAt)]) (cs' := [.int .i64 ((gt x0 a2374).fKey), .int .i64 ((gt x0 a2374).fRef.fTx), .int .i64 ((gt x0 a2374).fRef.fAt)]) rfl rfl rfl rfl tsz94 (Ones.int (Ones.int (Ones.int Ones.nil))) rfl rfl HM) ?_
        rintro w2403 HM
        refine ops_nil ?_
        refine at_then ?_
        refine run_seq ?_
        refine run_seq ?_
        obtain ⟨t2409, h2410, ho2354⟩ := bind_some ho2354
        obtain ⟨t2411, h2412, ho2354⟩ := bind_some ho2354
        refine run_meet (fun ρ_ w_ => ρ_ = [(0, p0), (10, p0), (11, .int .i64 (x0.length : Int)), (12, .int .i64 a2374), (4, .pointer (some ⟨b2399, 0, none⟩)), (3, .int .i64 a2374), (26, .bool ((!t2409) || (!t2411)))] ∧ Mem w [] w_ [box b2399 94 [.int .i64 ((gt x0 a2374).fKey), .int .i64 ((gt x0 a2374).fRef.fTx), .int .i64 ((gt x0 a2374).fRef.fAt)]]) ?_ ?_
        · skip
          refine run_region rfl ?_
          refine ops_ex rfl (guard_none rfl) rfl rfl (ex_fieldAddr (off' := 0) rfl rfl Try.underlying94 rfl tsz2 rfl) ?_
          refine ops_ex rfl (guard_none rfl) rfl rfl (ex_load1 rfl rfl Try.underlying2 rfl ((HM.box_at 0 rfl) 0 _ rfl)) ?_
          refine ops_does rfl (guard_none rfl) rfl rfl (does_callk rfl callok74 rfl (impl_isKey.calls (x0 := (gt x0 a2374).fKey) h2410)) ?_
          rintro _ w2413 ⟨rfl, hn⟩
          replace HM : Mem w [] w2413 [box b2399 94 [.int .i64 ((gt x0 a2374).fKey), .int .i64 ((gt x0 a2374).fRef.fTx), .int .i64 ((gt x0 a2374).fRef.fAt)]] := HM.call hn
          refine ops_ex rfl (guard_none rfl) rfl rfl (ex_not rfl rfl) ?_
          refine ops_ex rfl (guard_none rfl) rfl rfl (ex_move rfl rfl) ?_
          refine bool_cases (!t2409) (fun hg2414 => ?_) (fun hg2414 => ?_)
          · skip
            refine ops_off rfl (guard_off rfl rfl rfl hg2414) rfl rfl ?_
            refine ops_off rfl (guard_off rfl rfl rfl hg2414) rfl rfl ?_
            refine ops_off rfl (guard_off rfl rfl rfl hg2414) rfl rfl ?_
            refine ops_off rfl (guard_off rfl rfl rfl hg2414) rfl rfl ?_
            have hg2415 : ((!t2409) || (!t2411)) = true := by simp only [hg2414, Bool.and_true, Bool.true_and, Bool.and_false, Bool.false_and, Bool.or_true, Bool.true_or, Bool.or_false, Bool.false_or, Bool.not_true, Bool.not_false, Bool.not_not]
            refine ops_ex (v := .bool ((!t2409) || (!t2411))) rfl (guard_none rfl) rfl rfl (ex_por_t rfl rfl hg2414) ?_
            refine ops_nil ?_
            exact at_meet [(0, p0), (10, p0), (11, .int .i64 (x0.length : Int)), (12, .int .i64 a2374), (4, .pointer (some ⟨b2399, 0, none⟩)), (3, .int .i64 a2374), (26, .bool ((!t2409) || (!t2411)))] ⟨rfl, HM⟩ (Sub.cons rfl (Sub.cons rfl (Sub.cons rfl (Sub.cons rfl (Sub.cons rfl (Sub.cons rfl (Sub.cons rfl Sub.nil)))))))
          · skip
            refine ops_ex rfl (guard_on rfl rfl rfl hg2414) rfl rfl (ex_fieldAddr (off' := 1) rfl rfl Try.underlying94 rfl tsz69 rfl) ?_
            refine ops_ex rfl (guard_on rfl rfl rfl hg2414) rfl rfl (ex_loadN (cs := [(.int .i64 ((gt x0 a2374).fRef.fTx)), (.int .i64 ((gt x0 a2374).fRef.fAt))]) rfl rfl Try.underlying69 rfl tsz69 rfl ((HM.box_at 0 rfl).sub 1 2 rfl)) ?_
            refine ops_does rfl (guard_on rfl rfl rfl hg2414) rfl rfl (does_callk rfl callok75 rfl (impl_isRef.calls (x0 := (gt x0 a2374).fRef) (cond_t (not_mk hg2414) h2412))) ?_
            rintro _ w2416 ⟨rfl, hn⟩
            replace HM : Mem w [] w2416 [box b2399 94 [.int .i64 ((gt x0 a2374).fKey), .int .i64 ((gt x0 a2374).fRef.fTx), .int .i64 ((gt x0 a2374).fRef.fAt)]] := HM.call hn
            refine ops_ex rfl (guard_on rfl rfl rfl hg2414) rfl rfl (ex_not rfl rfl) ?_
            refine ops_ex (v := .bool ((!t2409) || (!t2411))) rfl (guard_none rfl) rfl rfl (ex_por_f rfl rfl hg2414 rfl) ?_
            refine ops_nil ?_
            exact at_meet [(0, p0), (10, p0), (11, .int .i64 (x0.length : Int)), (12, .int .i64 a2374), (4, .pointer (some ⟨b2399, 0, none⟩)), (3, .int .i64 a2374), (26, .bool ((!t2409) || (!t2411)))] ⟨rfl, HM⟩ (Sub.cons rfl (Sub.cons rfl (Sub.cons rfl (Sub.cons rfl (Sub.cons rfl (Sub.cons rfl (Sub.cons rfl Sub.nil)))))))
        · rintro _ w2417 ⟨rfl, HM⟩
          refine at_then ?_
          refine run_cond (b := ((!t2409) || (!t2411))) rfl (fun hb2418 => ?_) (fun hb2418 => ?_)
          · replace ho2354 := cond_t hb2418 ho2354
            refine run_seq ?_
            refine run_region rfl ?_
            refine ops_ex rfl (guard_none rfl) rfl rfl (ex_assign rfl rfl) ?_
            refine ops_nil ?_
            refine at_then ?_
            refine run_ret ?_
            refine at_then_ret ?_
            refine at_block_ret ?_
            refine at_then_ret ?_
            refine at_then_ret ?_
            refine at_block_ret ?_
            refine at_then_ret ?_
            replace HM := (HM.front 0 rfl rfl).drop
            have hR := Option.some.inj ho2354
            subst hR
            have hT := thn_inl H
            have hR := Option.some.inj hT
            subst hR
            exact at_ret1 rfl rfl ⟨_, rfl, rfl, HM⟩
          · replace ho2354 := cond_f hb2418 ho2354
            refine run_skip ?_
            refine at_then ?_
            refine run_seq ?_
            obtain ⟨e2419, ho2354⟩ := chk_some ho2354
            refine run_meet (fun ρ_ w_ => ρ_ = [(0, p0), (10, p0), (11, .int .i64 (x0.length : Int)), (12, .int .i64 a2374), (39, .bool ((decide (0 < a2374)) && (decide (((gt x0 a2374).fKey) ≤ ((gt x0 (wrap64 (a2374 - 1))).fKey)))))] ∧ Mem w [] w_ []) ?_ ?_
            · skip
              refine run_draw (fun w_ => Mem w [] w_ [box b2399 94 [.int .i64 ((gt x0 a2374).fKey), .int .i64 ((gt x0 a2374).fRef.fTx), .int .i64 ((gt x0 a2374).fRef.fAt)]]) mixed rfl rfl ?_
              replace HM := HM.grow (fr_drew _)
              have hS := Mem.suf (M := []) HM
              refine drw_take (i := 0) (l' := #[true, false, false, false, false, false, false, false, false, false, false, false, false]) rfl (guard_none rfl) rfl rfl (by kernel_rfl) (fun w_ hS_ => (ex_move rfl rfl)) hS ?_
              refine drw_take (i := 1) (l' := #[true, true, false, false, false, false, false, false, false, false, false, false, false]) rfl (guard_none rfl) rfl rfl (by kernel_rfl) (fun w_ hS_ => (ex_gtr rfl rfl rfl)) hS ?_
              refine drw_take (i := 2) (l' := #[true, true, true, false, false, false, false, false, false, false, false, false, false]) rfl (guard_none rfl) rfl rfl (by kernel_rfl) (fun w_ hS_ => (ex_move rfl rfl)) hS ?_
              refine bool_cases (decide (0 < a2374)) (fun hg2421 => ?_) (fun hg2421 => ?_)
              · skip
                refine drw_take (i := 3) (l' := #[true, true, true, true, false, false, false, false, false, false, false, false, false]) rfl (guard_on rfl rfl rfl hg2421) rfl rfl (by kernel_rfl) (fun w_ hS_ => (ex_fieldAddr (off' := 0) rfl rfl Try.underlying94 rfl tsz2 rfl)) hS ?_
                refine drw_take (i := 4) (l' := #[true, true, true, true, true, false, false, false, false, false, false, false, false]) rfl (guard_on rfl rfl rfl hg2421) rfl rfl (by kernel_rfl) (fun w_ hS_ => (ex_load1 rfl rfl Try.underlying2 rfl ((hS_.box_at 0 rfl) 0 _ rfl))) hS ?_
                refine drw_take (i := 5) (l' := #[true, true, true, true, true, true, false, false, false, false, false, false, false]) rfl (guard_on rfl rfl rfl hg2421) rfl rfl (by kernel_rfl) (fun w_ hS_ => (ex_move rfl rfl)) hS ?_
                refine drw_take (i := 6) (l' := #[true, true, true, true, true, true, true, false, false, false, false, false, false]) rfl (guard_on rfl rfl rfl hg2421) rfl rfl (by kernel_rfl) (fun w_ hS_ => (ex_move rfl rfl)) hS ?_
                refine drw_take (i := 7) (l' := #[true, true, true, true, true, true, true, true, false, false, false, false, false]) rfl (guard_on rfl rfl rfl hg2421) rfl rfl (by kernel_rfl) (fun w_ hS_ => (ex_sub rfl rfl rfl)) hS ?_
                have hc2420 : CellsAt _ (sb p0) (so p0 + (wrap64 (a2374 - 1)).toNat * 3) [(.int .i64 ((gt x0 (wrap64 (a2374 - 1))).fKey)), (.int .i64 ((gt x0 (wrap64 (a2374 - 1))).fRef.fTx)), (.int .i64 ((gt x0 (wrap64 (a2374 - 1))).fRef.fAt))] := rd_plain hp0 (or_t e2419 hg2421)
                refine drw_take (i := 8) (l' := #[true, true, true, true, true, true, true, true, true, false, false, false, false]) rfl (guard_on rfl rfl rfl hg2421) rfl rfl (by kernel_rfl) (fun w_ hS_ => (ex_indexAddr (d := kMember) rfl rfl rfl Try.underlying31 tsz94 hp0 (idx_lo (or_t e2419 hg2421)) (idx_hi (or_t e2419 hg2421)))) hS ?_
                refine drw_take (i := 9) (l' := #[true, true, true, true, true, true, true, true, true, true, false, false, false]) rfl (guard_on rfl rfl rfl hg2421) rfl rfl (by kernel_rfl) (fun w_ hS_ => (ex_fieldAddr (off' := so p0 + (wrap64 (a2374 - 1)).toNat * 3) rfl rfl Try.underlying94 rfl tsz2 rfl)) hS ?_
                refine drw_take (i := 10) (l' := #[true, true, true, true, true, true, true, true, true, true, true, false, false]) rfl (guard_on rfl rfl rfl hg2421) rfl rfl (by kernel_rfl) (fun w_ hS_ => (ex_load1 rfl rfl Try.underlying2 rfl ((hS_.at_ hc2420) 0 _ rfl))) hS ?_
                refine drw_take (i := 11) (l' := #[true, true, true, true, true, true, true, true, true, true, true, true, false]) rfl (guard_on rfl rfl rfl hg2421) rfl rfl (by kernel_rfl) (fun w_ hS_ => (ex_leq rfl rfl rfl)) hS ?_
                refine drw_take (i := 12) (v := .bool ((decide (0 < a2374)) && (decide (((gt x0 a2374).fKey) ≤ ((gt x0 (wrap64 (a2374 - 1))).fKey))))) (l' := #[true, true, true, true, true, true, true, true, true, true, true, true, true]) rfl (guard_none rfl) rfl rfl (by kernel_rfl) (fun w_ hS_ => (ex_pand_t rfl rfl hg2421 rfl)) hS ?_
                refine drw_done (by kernel_rfl) ?_
                replace HM := (HM.front 0 rfl rfl).drop
                exact at_meet [(0, p0), (10, p0), (11, .int .i64 (x0.length : Int)), (12, .int .i64 a2374), (39, .bool ((decide (0 < a2374)) && (decide (((gt x0 a2374).fKey) ≤ ((gt x0 (wrap64 (a2374 - 1))).fKey)))))] ⟨rfl, HM⟩ (Sub.cons rfl (Sub.cons rfl (Sub.cons rfl (Sub.cons rfl (Sub.cons rfl Sub.nil)))))
              · skip
                refine drw_off (i := 3) (l' := #[true, true, true, true, false, false, false, false, false, false, false, false, false]) rfl (guard_off rfl rfl rfl hg2421) rfl rfl (by kernel_rfl) hS ?_
                refine drw_off (i := 4) (l' := #[true, true, true, true, true, false, false, false, false, false, false, false, false]) rfl (guard_off rfl rfl rfl hg2421) rfl rfl (by kernel_rfl) hS ?_
                refine drw_off (i := 5) (l' := #[true, true, true, true, true, true, false, false, false, false, false, false, false]) rfl (guard_off rfl rfl rfl hg2421) rfl rfl (by kernel_rfl) hS ?_
                refine drw_off (i := 6) (l' := #[true, true, true, true, true, true, true, false, false, false, false, false, false]) rfl (guard_off rfl rfl rfl hg2421) rfl rfl (by kernel_rfl) hS ?_
                refine drw_off (i := 7) (l' := #[true, true, true, true, true, true, true, true, false, false, false, false, false]) rfl (guard_off rfl rfl rfl hg2421) rfl rfl (by kernel_rfl) hS ?_
                refine drw_off (i := 8) (l' := #[true, true, true, true, true, true, true, true, true, false, false, false, false]) rfl (guard_off rfl rfl rfl hg2421) rfl rfl (by kernel_rfl) hS ?_
                refine drw_off (i := 9) (l' := #[true, true, true, true, true, true, true, true, true, true, false, false, false]) rfl (guard_off rfl rfl rfl hg2421) rfl rfl (by kernel_rfl) hS ?_
                refine drw_off (i := 10) (l' := #[true, true, true, true, true, true, true, true, true, true, true, false, false]) rfl (guard_off rfl rfl rfl hg2421) rfl rfl (by kernel_rfl) hS ?_
                refine drw_off (i := 11) (l' := #[true, true, true, true, true, true, true, true, true, true, true, true, false]) rfl (guard_off rfl rfl rfl hg2421) rfl rfl (by kernel_rfl) hS ?_
                have hg2422 : ((decide (0 < a2374)) && (decide (((gt x0 a2374).fKey) ≤ ((gt x0 (wrap64 (a2374 - 1))).fKey)))) = false := by simp only [hg2421, Bool.and_true, Bool.true_and, Bool.and_false, Bool.false_and, Bool.or_true, Bool.true_or, Bool.or_false, Bool.false_or, Bool.not_true, Bool.not_false, Bool.not_not]
                refine drw_take (i := 12) (v := .bool ((decide (0 < a2374)) && (decide (((gt x0 a2374).fKey) ≤ ((gt x0 (wrap64 (a2374 - 1))).fKey))))) (l' := #[true, true, true, true, true, true, true, true, true, true, true, true, true]) rfl (guard_none rfl) rfl rfl (by kernel_rfl) (fun w_ hS_ => (ex_pand_f rfl rfl hg2421)) hS ?_
                refine drw_done (by kernel_rfl) ?_
                replace HM := (HM.front 0 rfl rfl).drop
                exact at_meet [(0, p0), (10, p0), (11, .int .i64 (x0.length : Int)), (12, .int .i64 a2374), (39, .bool ((decide (0 < a2374)) && (decide (((gt x0 a2374).fKey) ≤ ((gt x0 (wrap64 (a2374 - 1))).fKey)))))] ⟨rfl, HM⟩ (Sub.cons rfl (Sub.cons rfl (Sub.cons rfl (Sub.cons rfl (Sub.cons rfl Sub.nil)))))
            · rintro _ w2423 ⟨rfl, HM⟩
              refine at_then ?_
              refine run_cond (b := ((decide (0 < a2374)) && (decide (((gt x0 a2374).fKey) ≤ ((gt x0 (wrap64 (a2374 - 1))).fKey))))) rfl (fun hb2424 => ?_) (fun hb2424 => ?_)
              · replace ho2354 := cond_t hb2424 ho2354
                refine run_seq ?_
                refine run_region rfl ?_
                refine ops_ex rfl (guard_none rfl) rfl rfl (ex_assign rfl rfl) ?_
                refine ops_nil ?_
                refine at_then ?_
                refine run_ret ?_
                refine at_block_ret ?_
                refine at_then_ret ?_
                refine at_then_ret ?_
                refine at_block_ret ?_
                refine at_then_ret ?_
                have hR := Option.some.inj ho2354
                subst hR
                have hT := thn_inl H
                have hR := Option.some.inj hT
                subst hR
                exact at_ret1 rfl rfl ⟨_, rfl, rfl, HM⟩
              · replace ho2354 := cond_f hb2424 ho2354
                refine run_skip ?_
                refine at_block ?_
                refine at_then ?_
                refine run_region rfl ?_
                refine ops_ex rfl (guard_none rfl) rfl rfl (ex_add rfl rfl rfl) ?_
                refine ops_ex rfl (guard_none rfl) rfl rfl (ex_move rfl rfl) ?_
                refine ops_nil ?_
                exact at_again k2394 (ρ1 := [(0, p0), (10, p0), (11, .int .i64 (x0.length : Int)), (12, .int .i64 (wrap64 (a2374 + 1)))]) (Nat.lt_succ_self _) ⟨_, ho2354, rfl, HM⟩ (Sub.cons rfl (Sub.cons rfl (Sub.cons rfl (Sub.cons rfl Sub.nil))))
      · replace ho2354 := cond_f hb2396 ho2354
        refine run_exit ?_
        refine at_then_exit ?_
        refine at_then_exit ?_
        refine at_block_exit ?_
        exact at_mid (ρ' := [(0, p0)]) ⟨(Option.some.inj ho2354), rfl, HM⟩ (Sub.cons rfl Sub.nil)
    · rintro _ w2425 ⟨rfl, rfl, HM⟩
      replace H := (thn_inr H)
      obtain ⟨o2466, ho2467, H⟩ := bind_some H
      refine run_mid (fun ρ_ w_ => Sum.inr () = o2466 ∧ ρ_ = [] ∧ Mem w [] w_ []) ?_ ?_
      · skip
        refine run_seq ?_
        refine run_region rfl ?_
        refine ops_ex rfl (guard_none rfl) rfl rfl (ex_move rfl rfl) ?_
        refine ops_ex rfl (guard_none rfl) rfl rfl (ex_len (d := kMember) (xs := x0) rfl rfl Try.underlying31 hp0) ?_
        refine ops_ex rfl (guard_none rfl) rfl rfl (ex_move rfl rfl) ?_
        refine ops_nil ?_
        refine at_then ?_
        refine run_block ?_
        refine run_loop (fun k_ ρ_ w_ => ∃ a2481 : Int, impl_MembersFault.l1 x0 k_ a2481 = some o2466 ∧ ρ_ = [(0, p0), (41, p0), (42, .int .i64 (x0.length : Int)), (43, .int .i64 a2481)] ∧ Mem w [] w_ []) k (ρ1 := [(0, p0), (41, p0), (42, .int .i64 (x0.length : Int)), (43, .int .i64 0)]) ⟨_, ho2467, rfl, HM⟩ (Sub.cons rfl (Sub.cons rfl (Sub.cons rfl (Sub.cons rfl Sub.nil)))) ?_
        clear HM ho2467
        rintro k2495 _ w2496 ⟨a2481, ho2467, rfl, HM⟩
        obtain _ | k2495 := k2495
        · exact nomatch ((impl_MembersFault.l1_z x0 a2481).symm.trans ho2467)
        replace ho2467 := (impl_MembersFault.l1_s x0 k2495 a2481).symm.trans ho2467
        refine run_seq ?_
        refine run_region rfl ?_
        refine ops_ex rfl (guard_none rfl) rfl rfl (ex_lss rfl rfl rfl) ?_
        refine ops_nil ?_
        refine at_then ?_
        refine run_seq ?_
        refine run_cond (b := (decide (a2481 < (x0.length : Int)))) rfl (fun hb2497 => ?_) (fun hb2497 => ?_)
        · replace ho2467 := cond_t hb2497 ho2467
          refine run_skip ?_
          refine at_then ?_
          refine run_seq ?_
          refine run_block ?_
          refine run_seq ?_
          obtain ⟨e2498, ho2467⟩ := chk_some ho2467
          refine run_region rfl ?_
          refine ops_ex rfl (guard_none rfl) rfl rfl (ex_move rfl rfl) ?_
          have hc2499 : CellsAt _ (sb p0) (so p0 + (a2481).toNat * 3) [(.int .i64 ((gt x0 a2481).fKey)), (.int .i64 ((gt x0 a2481).fRef.fTx)), (.int .i64 ((gt x0 a2481).fRef.fAt))] := rd_plain hp0 e2498
          refine ops_ex rfl (guard_none rfl) rfl rfl (ex_indexAddr (d := kMember) rfl rfl rfl Try.underlying31 tsz94 hp0 (idx_lo e2498) (idx_hi e2498)) ?_
          refine ops_ex rfl (guard_none rfl) rfl rfl (ex_loadN (cs := [(.int .i64 ((gt x0 a2481).fKey)), (.int .i64 ((gt x0 a2481).fRef.fTx)), (.int .i64 ((gt x0 a2481).fRef.fAt))]) rfl rfl Try.underlying94 rfl tsz94 rfl ((HM.at_ hc2499).sub 0 3 rfl)) ?_
          refine ops_does rfl (guard_none rfl) rfl rfl (does_alloc (cs := [.int .i64 0, .int .i64 0, .int .i64 0]) rfl tz94 rfl HM) ?_
          rintro _ w2503 ⟨b2500, rfl, HM⟩
          refine ops_ex rfl (guard_none rfl) rfl rfl (ex_assign rfl rfl) ?_
          refine ops_doesS rfl (guard_none rfl) rfl (does_store (vs := [.int .i64 ((gt x0 a2481).fKey), .int .i64 ((gt x0 a2481).fRef.fTx), .int .i64 ((gt x0 a2481).fRef.fAt)]) (cs' := [.int .i64 ((gt x0 a2481).fKey), .int .i64 ((gt x0 a2481).fRef.fTx), .int .i64 ((gt x0 a2481).fRef.fAt)]) rfl rfl rfl rfl tsz94 (Ones.int (Ones.int (Ones.int Ones.nil))) rfl rfl HM) ?_
          rintro w2504 HM
          refine ops_nil ?_
          refine at_then ?_
          refine run_seq ?_
          obtain ⟨e2505, ho2467⟩ := chk_some ho2467
          obtain ⟨t2509, h2510, ho2467⟩ := bind_some ho2467
          refine run_region rfl ?_
          refine ops_ex rfl (guard_none rfl) rfl rfl (ex_move rfl rfl) ?_
          refine ops_ex rfl (guard_none rfl) rfl rfl (ex_move rfl rfl) ?_
          refine ops_exE rfl (guard_none rfl) rfl rfl (ex_cutH kMember rfl rfl rfl Try.underlying31 tsz94 hp0 e2505) ?_
          intro u2506 hr2508
          refine ops_ex rfl (guard_none rfl) rfl rfl (ex_func rfl rfl) ?_
          refine ops_does rfl (guard_none rfl) rfl rfl (does_callk rfl callok76 rfl (slices_ContainsFunc_impl_Member.calls (x0 := x0.take (a2481).toNat) (x1_0 := (gt x0 a2481)) (HM.rd hr2508) (HM.box_at 0 rfl) h2510)) ?_
          rintro _ w2511 ⟨rfl, hn⟩
          replace HM : Mem w [] w2511 [box b2500 94 [.int .i64 ((gt x0 a2481).fKey), .int .i64 ((gt x0 a2481).fRef.fTx), .int .i64 ((gt x0 a2481).fRef.fAt)]] := HM.call hn
          refine ops_nil ?_
          refine at_then ?_
          refine run_cond (b := t2509) rfl (fun hb2512 => ?_) (fun hb2512 => ?_)
          · replace ho2467 := cond_t hb2512 ho2467
            refine run_seq ?_
            refine run_region rfl ?_
            refine ops_ex rfl (guard_none rfl) rfl rfl (ex_assign rfl rfl) ?_
            refine ops_nil ?_
            refine at_then ?_
            refine run_ret ?_
            refine at_block_ret ?_
            refine at_then_ret ?_
            refine at_then_ret ?_
            refine at_block_ret ?_
            refine at_then_ret ?_
            replace HM := (HM.front 0 rfl rfl).drop
            have hR := Option.some.inj ho2467
            subst hR
            have hT := thn_inl H
            have hR := Option.some.inj hT
            subst hR
            exact at_ret1 rfl rfl ⟨_, rfl, rfl, HM⟩
          · replace ho2467 := cond_f hb2512 ho2467
            refine run_skip ?_
            refine at_block ?_
            refine at_then ?_
            refine run_region rfl ?_
            refine ops_ex rfl (guard_none rfl) rfl rfl (ex_add rfl rfl rfl) ?_
            refine ops_ex rfl (guard_none rfl) rfl rfl (ex_move rfl rfl) ?_
            refine ops_nil ?_
            replace HM := (HM.front 0 rfl rfl).drop
            exact at_again k2495 (ρ1 := [(0, p0), (41, p0), (42, .int .i64 (x0.length : Int)), (43, .int .i64 (wrap64 (a2481 + 1)))]) (Nat.lt_succ_self _) ⟨_, ho2467, rfl, HM⟩ (Sub.cons rfl (Sub.cons rfl (Sub.cons rfl (Sub.cons rfl Sub.nil))))
        · replace ho2467 := cond_f hb2497 ho2467
          refine run_exit ?_
          refine at_then_exit ?_
          refine at_then_exit ?_
          refine at_block_exit ?_
          exact at_mid (ρ' := []) ⟨(Option.some.inj ho2467), rfl, HM⟩ Sub.nil
      · rintro _ w2513 ⟨rfl, rfl, HM⟩
        replace H := (thn_inr H)
        refine run_seq ?_
        refine run_region rfl ?_
        refine ops_ex rfl (guard_none rfl) rfl rfl (ex_assign rfl rfl) ?_
        refine ops_nil ?_
        refine at_then ?_
        refine run_ret ?_
        have hR := Option.some.inj H
        subst hR
        exact at_ret1 rfl rfl ⟨_, rfl, rfl, HM⟩

def laws_FnExactMembersFault.f (k : Nat) (x0 : List Member) : Option Bool := ((laws_szMemberS.f k x0 1048576).bind fun t2525 => (bif (decide (t2525 < 0)) then some true else ((laws_toMemberS.f k x0).bind fun t2530 => ((spec_MembersFault.f k t2530).bind fun t2534 => ((laws_toMemberS.f k x0).bind fun t2538 => ((impl_MembersFault.f k t2538).bind fun t2543 => (bif (t2543 != t2534) then some false else ((laws_toMemberS.f k x0).bind fun t2548 => ((laws_eqMemberS.f k t2538 t2548).bind fun t2552 => (bif !t2552 then some false else some true))))))))))
theorem laws_FnExactMembersFault.calls {k : Nat} {x0 : List Member} {p0 : Value} {w : World} (hp0 : RdS kMember w p0 x0) {r : Bool} (H : laws_FnExactMembersFault.f k x0 = some r) :
    Calls Try.prog 9 ([p0] : List Value).toArray w (fun e w_ => ∃ v, e = .returned v ∧ v = (.bool r) ∧ Mem w [] w_ []) := by
  have HM := Mem.start w
  refine calls_run (N := 27) Try.func9 rfl rfl rfl rfl ?_
  unfold laws_FnExactMembersFault.f at H
  refine run_seq ?_
  refine run_region rfl ?_
  refine ops_ex rfl (guard_none rfl) rfl rfl (ex_assign rfl rfl) ?_
  refine ops_nil ?_
  refine at_then ?_
  refine run_seq ?_
  refine run_region rfl ?_
  refine ops_ex rfl (guard_none rfl) rfl rfl (ex_assign rfl rfl) ?_
  refine ops_nil ?_
  refine at_then ?_
  refine run_seq ?_
  obtain ⟨t2525, h2526, H⟩ := bind_some H
  refine run_region rfl ?_
  refine ops_ex rfl (guard_none rfl) rfl rfl (ex_move rfl rfl) ?_
  refine ops_ex rfl (guard_none rfl) rfl rfl (ex_move rfl rfl) ?_
  refine ops_does rfl (guard_none rfl) rfl rfl (does_callk rfl callok20 rfl (laws_szMemberS.calls (x0 := x0) (x1 := 1048576) (HM.rd hp0) h2526)) ?_
  rintro _ w2527 ⟨rfl, hn⟩
  replace HM : Mem w [] w2527 [] := HM.call hn
  refine ops_ex rfl (guard_none rfl) rfl rfl (ex_assign rfl rfl) ?_
  refine ops_nil ?_
  refine at_then ?_
  refine run_seq ?_
  refine run_seq ?_
  refine run_region rfl ?_
  refine ops_ex rfl (guard_none rfl) rfl rfl (ex_move rfl rfl) ?_
  refine ops_ex rfl (guard_none rfl) rfl rfl (ex_lss rfl rfl rfl) ?_
  refine ops_nil ?_
  refine at_then ?_
  refine run_cond (b := (decide (t2525 < 0))) rfl (fun hb2529 => ?_) (fun hb2529 => ?_)
  · replace H := cond_t hb2529 H
    refine run_seq ?_
    refine run_region rfl ?_
    refine ops_ex rfl (guard_none rfl) rfl rfl (ex_assign rfl rfl) ?_
    refine ops_nil ?_
    refine at_then ?_
    refine run_ret ?_
    refine at_then_ret ?_
    have hR := Option.some.inj H
    subst hR
    exact at_ret1 rfl rfl ⟨_, rfl, rfl, HM⟩
  · replace H := cond_f hb2529 H
    refine run_skip ?_
    refine at_then ?_
    refine run_seq ?_
    obtain ⟨t2530, h2531, H⟩ := bind_some H
    obtain ⟨t2534, h2535, H⟩ := bind_some H
    refine run_region rfl ?_
    refine ops_ex rfl (guard_none rfl) rfl rfl (ex_move rfl rfl) ?_
    refine ops_does rfl (guard_none rfl) rfl rfl (does_callk rfl callok22 rfl (laws_toMemberS.calls (x0 := x0) (HM.rd hp0) h2531)) ?_
    rintro u2532 w2536 ⟨_, rfl, hn⟩
    replace HM : Mem w [] w2536 [own kMember 94 u2532 t2530] := HM.call hn
    refine ops_does rfl (guard_none rfl) rfl rfl (does_callk rfl callok32 rfl (spec_MembersFault.calls (x0 := t2530) (HM.own_rd 0 rfl) h2535)) ?_
    rintro _ w2537 ⟨rfl, hn⟩
    replace HM : Mem w [] w2537 [own kMember 94 u2532 t2530] := HM.call hn
    refine ops_ex rfl (guard_none rfl) rfl rfl (ex_assign rfl rfl) ?_
    refine ops_nil ?_
    refine at_then ?_
    refine run_seq ?_
    obtain ⟨t2538, h2539, H⟩ := bind_some H
    refine run_region rfl ?_
    refine ops_ex rfl (guard_none rfl) rfl rfl (ex_move rfl rfl) ?_
    refine ops_does rfl (guard_none rfl) rfl rfl (does_callk rfl callok22 rfl (laws_toMemberS.calls (x0 := x0) (HM.rd hp0) h2539)) ?_
    rintro u2540 w2542 ⟨_, rfl, hn⟩
    replace HM : Mem w [] w2542 [own kMember 94 u2540 t2538, own kMember 94 u2532 t2530] := HM.call hn
    refine ops_ex rfl (guard_none rfl) rfl rfl (ex_assign rfl rfl) ?_
    refine ops_nil ?_
    refine at_then ?_
    refine run_seq ?_
    obtain ⟨t2543, h2544, H⟩ := bind_some H
    refine run_region rfl ?_
    refine ops_ex rfl (guard_none rfl) rfl rfl (ex_move rfl rfl) ?_
    refine ops_does rfl (guard_none rfl) rfl rfl (does_callk rfl callok33 rfl (impl_MembersFault.calls (x0 := t2538) (HM.own_rd 0 rfl) h2544)) ?_
    rintro _ w2545 ⟨rfl, hn⟩
    replace HM : Mem w [] w2545 [own kMember 94 u2540 t2538, own kMember 94 u2532 t2530] := HM.call hn
    refine ops_ex rfl (guard_none rfl) rfl rfl (ex_assign rfl rfl) ?_
    refine ops_nil ?_
    refine at_then ?_
    refine run_seq ?_
    refine run_seq ?_
    refine run_region rfl ?_
    refine ops_ex rfl (guard_none rfl) rfl rfl (ex_move rfl rfl) ?_
    refine ops_ex rfl (guard_none rfl) rfl rfl (ex_move rfl rfl) ?_
    refine ops_ex rfl (guard_none rfl) rfl rfl (ex_neq rfl rfl rfl) ?_
    refine ops_nil ?_
    refine at_then ?_
    refine run_cond (b := (t2543 != t2534)) rfl (fun hb2547 => ?_) (fun hb2547 => ?_)
    · replace H := cond_t hb2547 H
      refine run_seq ?_
      refine run_region rfl ?_
      refine ops_ex rfl (guard_none rfl) rfl rfl (ex_assign rfl rfl) ?_
      refine ops_nil ?_
      refine at_then ?_
      refine run_ret ?_
      refine at_then_ret ?_
      replace HM := (HM.front 0 rfl rfl).drop
      replace HM := (HM.front 0 rfl rfl).drop
      have hR := Option.some.inj H
      subst hR
      exact at_ret1 rfl rfl ⟨_, rfl, rfl, HM⟩
    · replace H := cond_f hb2547 H
      refine run_skip ?_
      refine at_then ?_
      refine run_seq ?_
      refine run_seq ?_
      obtain ⟨t2548, h2549, H⟩ := bind_some H
      obtain ⟨t2552, h2553, H⟩ := bind_some H
      refine run_region rfl ?_
      refine ops_ex rfl (guard_none rfl) rfl rfl (ex_move rfl rfl) ?_
      refine ops_ex rfl (guard_none rfl) rfl rfl (ex_move rfl rfl) ?_
      refine ops_does rfl (guard_none rfl) rfl rfl (does_callk rfl callok22 rfl (laws_toMemberS.calls (x0 := x0) (HM.rd hp0) h2549)) ?_
      rintro u2550 w2554 ⟨_, rfl, hn⟩
      replace HM : Mem w [] w2554 [own kMember 94 u2550 t2548, own kMember 94 u2540 t2538, own kMember 94 u2532 t2530] := HM.call hn
      refine ops_does rfl (guard_none rfl) rfl rfl (does_callk rfl callok24 rfl (laws_eqMemberS.calls (x0 := t2538) (x1 := t2548) (HM.own_rd 1 rfl) (HM.own_rd 0 rfl) h2553)) ?_
      rintro _ w2555 ⟨rfl, hn⟩
      replace HM : Mem w [] w2555 [own kMember 94 u2550 t2548, own kMember 94 u2540 t2538, own kMember 94 u2532 t2530] := HM.call hn
      refine ops_ex rfl (guard_none rfl) rfl rfl (ex_not rfl rfl) ?_
      refine ops_nil ?_
      refine at_then ?_
      refine run_cond (b := !t2552) rfl (fun hb2556 => ?_) (fun hb2556 => ?_)
      · replace H := cond_t hb2556 H
        refine run_seq ?_
        refine run_region rfl ?_
        refine ops_ex rfl (guard_none rfl) rfl rfl (ex_assign rfl rfl) ?_
        refine ops_nil ?_
        refine at_then ?_
        refine run_ret ?_
        refine at_then_ret ?_
        replace HM := (HM.front 0 rfl rfl).drop
        replace HM := (HM.front 0 rfl rfl).drop
        replace HM := (HM.front 0 rfl rfl).drop
        have hR := Option.some.inj H
        subst hR
        exact at_ret1 rfl rfl ⟨_, rfl, rfl, HM⟩
      · replace H := cond_f hb2556 H
        refine run_skip ?_
        refine at_then ?_
        refine run_seq ?_
        refine run_region rfl ?_
        refine ops_ex rfl (guard_none rfl) rfl rfl (ex_assign rfl rfl) ?_
        refine ops_nil ?_
        refine at_then ?_
        refine run_ret ?_
        replace HM := (HM.front 0 rfl rfl).drop
        replace HM := (HM.front 0 rfl rfl).drop
        replace HM := (HM.front 0 rfl rfl).drop
        have hR := Option.some.inj H
        subst hR
        exact at_ret1 rfl rfl ⟨_, rfl, rfl, HM⟩

def laws_szBlock.f (k : Nat) (x0 : Block) (x1 : Int) : Option Int := ((laws_szInt64S.f k x0.fTxs x1).bind fun t2570 => (bif (decide (t2570 < 0)) then some (-1) else some t2570))
theorem laws_szBlock.calls {k : Nat} {x0 : Block} {x1 : Int} {p0_0 : Value} {w : World} (hp0_0 : RdS kInt w p0_0 x0.fTxs) {r : Int} (H : laws_szBlock.f k x0 x1 = some r) :
    Calls Try.prog 34 ([.agg #[(.int .i64 x0.fPrev), (.int .i64 x0.fHeight), (.int .i64 x0.fMiner), p0_0], .int .i64 x1] : List Value).toArray w (fun e w_ => ∃ v, e = .returned v ∧ v = (.int .i64 r) ∧ Mem w [] w_ []) := by
  have HM := Mem.start w
  refine calls_run (N := 12) Try.func34 rfl rfl rfl rfl ?_
  unfold laws_szBlock.f at H
  refine run_seq ?_
  refine run_region rfl ?_
  refine ops_does rfl (guard_none rfl) rfl rfl (does_box (cs := [.int .i64 x0.fPrev, .int .i64 x0.fHeight, .int .i64 x0.fMiner, p0_0]) rfl rfl rfl HM) ?_
  rintro _ w2569 ⟨b2566, rfl, HM⟩
  refine ops_ex rfl (guard_none rfl) rfl rfl (ex_assign rfl rfl) ?_
  refine ops_nil ?_
  refine at_then ?_
  refine run_seq ?_
  obtain ⟨t2570, h2571, H⟩ := bind_some H
  refine run_region rfl ?_
  refine ops_ex rfl (guard_none rfl) rfl rfl (ex_fieldAddr (off' := 3) rfl rfl Try.underlying47 rfl tsz34 rfl) ?_
  refine ops_ex rfl (guard_none rfl) rfl rfl (ex_load1 rfl rfl Try.underlying34 rfl ((HM.box_at 0 rfl) 3 _ rfl)) ?_
  refine ops_ex rfl (guard_none rfl) rfl rfl (ex_move rfl rfl) ?_
  refine ops_does rfl (guard_none rfl) rfl rfl (does_callk rfl callok64 rfl (laws_szInt64S.calls (x0 := x0.fTxs) (x1 := x1) (HM.rd hp0_0) h2571)) ?_
  rintro _ w2572 ⟨rfl, hn⟩
  replace HM : Mem w [] w2572 [box b2566 47 [.int .i64 x0.fPrev, .int .i64 x0.fHeight, .int .i64 x0.fMiner, p0_0]] := HM.call hn
  refine ops_ex rfl (guard_none rfl) rfl rfl (ex_assign rfl rfl) ?_
  refine ops_nil ?_
  refine at_then ?_
  refine run_seq ?_
  refine run_seq ?_
  refine run_region rfl ?_
  refine ops_ex rfl (guard_none rfl) rfl rfl (ex_move rfl rfl) ?_
  refine ops_ex rfl (guard_none rfl) rfl rfl (ex_lss rfl rfl rfl) ?_
  refine ops_nil ?_
  refine at_then ?_
  refine run_cond (b := (decide (t2570 < 0))) rfl (fun hb2573 => ?_) (fun hb2573 => ?_)
  · replace H := cond_t hb2573 H
    refine run_seq ?_
    refine run_region rfl ?_
    refine ops_ex rfl (guard_none rfl) rfl rfl (ex_assign rfl rfl) ?_
    refine ops_nil ?_
    refine at_then ?_
    refine run_ret ?_
    refine at_then_ret ?_
    replace HM := (HM.front 0 rfl rfl).drop
    have hR := Option.some.inj H
    subst hR
    exact at_ret1 rfl rfl ⟨_, rfl, rfl, HM⟩
  · replace H := cond_f hb2573 H
    refine run_skip ?_
    refine at_then ?_
    refine run_seq ?_
    refine run_region rfl ?_
    refine ops_ex rfl (guard_none rfl) rfl rfl (ex_move rfl rfl) ?_
    refine ops_ex rfl (guard_none rfl) rfl rfl (ex_assign rfl rfl) ?_
    refine ops_nil ?_
    refine at_then ?_
    refine run_ret ?_
    replace HM := (HM.front 0 rfl rfl).drop
    have hR := Option.some.inj H
    subst hR
    exact at_ret1 rfl rfl ⟨_, rfl, rfl, HM⟩

def laws_toBlock.f (k : Nat) (x0 : Block) : Option Block := ((laws_toInt64S.f k x0.fTxs).bind fun t2606 => some (⟨x0.fPrev, x0.fHeight, x0.fMiner, t2606⟩ : Block))
theorem laws_toBlock.calls {k : Nat} {x0 : Block} {p0_0 : Value} {w : World} (hp0_0 : RdS kInt w p0_0 x0.fTxs) {r : Block} (H : laws_toBlock.f k x0 = some r) :
    Calls Try.prog 36 ([.agg #[(.int .i64 x0.fPrev), (.int .i64 x0.fHeight), (.int .i64 x0.fMiner), p0_0]] : List Value).toArray w (fun e w_ => ∃ v, e = .returned v ∧ ∃ u0 : Value, v = (.agg #[.int .i64 r.fPrev, .int .i64 r.fHeight, .int .i64 r.fMiner, u0]) ∧ Mem w [] w_ [own kInt 2 u0 r.fTxs]) := by
  have HM := Mem.start w
  refine calls_run (N := 18) Try.func36 rfl rfl rfl rfl ?_
  unfold laws_toBlock.f at H
  refine run_seq ?_
  refine run_region rfl ?_
  refine ops_does rfl (guard_none rfl) rfl rfl (does_box (cs := [.int .i64 x0.fPrev, .int .i64 x0.fHeight, .int .i64 x0.fMiner, p0_0]) rfl rfl rfl HM) ?_
  rintro _ w2597 ⟨b2591, rfl, HM⟩
  refine ops_does rfl (guard_none rfl) rfl rfl (does_alloc (cs := [.int .i64 0, .int .i64 0, .int .i64 0, .slice none 0 0]) rfl tz50 rfl HM) ?_
  rintro _ w2598 ⟨b2594, rfl, HM⟩
  refine ops_nil ?_
  refine at_then ?_
  refine run_seq ?_
  refine run_region rfl ?_
  refine ops_does rfl (guard_none rfl) rfl rfl (does_alloc (cs := [.int .i64 0, .int .i64 0, .int .i64 0, .slice none 0 0]) rfl tz50 rfl HM) ?_
  rintro _ w2602 ⟨b2599, rfl, HM⟩
  refine ops_nil ?_
  refine at_then ?_
  refine run_seq ?_
  refine run_region rfl ?_
  refine ops_ex rfl (guard_none rfl) rfl rfl (ex_fieldAddr (off' := 0) rfl rfl Try.underlying47 rfl tsz2 rfl) ?_
  refine ops_ex rfl (guard_none rfl) rfl rfl (ex_load1 rfl rfl Try.underlying2 rfl ((HM.box_at 2 rfl) 0 _ rfl)) ?_
  refine ops_ex rfl (guard_none rfl) rfl rfl (ex_fieldAddr (off' := 0) rfl rfl Try.underlying50 rfl tsz2 rfl) ?_
  refine ops_doesS rfl (guard_none rfl) rfl (does_store (vs := [.int .i64 x0.fPrev]) (cs' := [.int .i64 x0.fPrev, .int .i64 0, .int .i64 0, .slice none 0 0]) rfl rfl rfl rfl tsz2 (Ones.int Ones.nil) rfl rfl HM) ?_
  rintro w2603 HM
  refine ops_nil ?_
  refine at_then ?_
  refine run_seq ?_
  refine run_region rfl ?_
  refine ops_ex rfl (guard_none rfl) rfl rfl (ex_fieldAddr (off' := 1) rfl rfl Try.underlying47 rfl tsz2 rfl) ?_
  refine ops_ex rfl (guard_none rfl) rfl rfl (ex_load1 rfl rfl Try.underlying2 rfl ((HM.box_at 2 rfl) 1 _ rfl)) ?_
  refine ops_ex rfl (guard_none rfl) rfl rfl (ex_fieldAddr (off' := 1) rfl rfl Try.underlying50 rfl tsz2 rfl) ?_
  refine ops_doesS rfl (guard_none rfl) rfl (does_store (vs := [.int .i64 x0.fHeight]) (cs' := [.int .i64 x0.fPrev, .int .i64 x0.fHeight, .int .i64 0, .slice none 0 0]) rfl rfl rfl rfl tsz2 (Ones.int Ones.nil) rfl rfl HM) ?_
  rintro w2604 HM
  refine ops_nil ?_
  refine at_then ?_
  refine run_seq ?_
  refine run_region rfl ?_
  refine ops_ex rfl (guard_none rfl) rfl rfl (ex_fieldAddr (off' := 2) rfl rfl Try.underlying47 rfl tsz2 rfl) ?_
  refine ops_ex rfl (guard_none rfl) rfl rfl (ex_load1 rfl rfl Try.underlying2 rfl ((HM.box_at 2 rfl) 2 _ rfl)) ?_
  refine ops_ex rfl (guard_none rfl) rfl rfl (ex_fieldAddr (off' := 2) rfl rfl Try.underlying50 rfl tsz2 rfl) ?_
  refine ops_doesS rfl (guard_none rfl) rfl (does_store (vs := [.int .i64 x0.fMiner]) (cs' := [.int .i64 x0.fPrev, .int .i64 x0.fHeight, .int .i64 x0.fMiner, .slice none 0 0]) rfl rfl rfl rfl tsz2 (Ones.int Ones.nil) rfl rfl HM) ?_
  rintro w2605 HM
  refine ops_nil ?_
  refine at_then ?_
  refine run_seq ?_
  obtain ⟨t2606, h2607, H⟩ := bind_some H
  refine run_region rfl ?_
  refine ops_ex rfl (guard_none rfl) rfl rfl (ex_fieldAddr (off' := 3) rfl rfl Try.underlying47 rfl tsz34 rfl) ?_
  refine ops_ex rfl (guard_none rfl) rfl rfl (ex_load1 rfl rfl Try.underlying34 rfl ((HM.box_at 2 rfl) 3 _ rfl)) ?_
  refine ops_does rfl (guard_none rfl) rfl rfl (does_callk rfl callok66 rfl (laws_toInt64S.calls (x0 := x0.fTxs) (HM.rd hp0_0) h2607)) ?_
  rintro u2608 w2610 ⟨_, rfl, hn⟩
  replace HM : Mem w [] w2610 [own kInt 2 u2608 t2606, box b2599 50 [.int .i64 x0.fPrev, .int .i64 x0.fHeight, .int .i64 x0.fMiner, .slice none 0 0], box b2594 50 [.int .i64 0, .int .i64 0, .int .i64 0, .slice none 0 0], box b2591 47 [.int .i64 x0.fPrev, .int .i64 x0.fHeight, .int .i64 x0.fMiner, p0_0]] := HM.call hn
  refine ops_ex rfl (guard_none rfl) rfl rfl (ex_fieldAddr (off' := 3) rfl rfl Try.underlying50 rfl tsz34 rfl) ?_
  replace HM := HM.front 1 rfl rfl
  refine ops_doesS rfl (guard_none rfl) rfl (does_store (vs := [u2608]) (cs' := [.int .i64 x0.fPrev, .int .i64 x0.fHeight, .int .i64 x0.fMiner, u2608]) rfl rfl rfl (rd_cells (HM.own_rd 1 rfl)) tsz34 (Ones.rd (HM.own_rd 1 rfl) Ones.nil) rfl rfl HM) ?_
  rintro w2611 HM
  refine ops_nil ?_
  refine at_then ?_
  refine run_seq ?_
  refine run_region rfl ?_
  refine ops_ex rfl (guard_none rfl) rfl rfl (ex_loadN (cs := [(.int .i64 x0.fPrev), (.int .i64 x0.fHeight), (.int .i64 x0.fMiner), u2608]) rfl rfl Try.underlying50 rfl tsz50 rfl ((HM.box_at 0 rfl).sub 0 4 rfl)) ?_
  replace HM := HM.front 2 rfl rfl
  refine ops_doesS rfl (guard_none rfl) rfl (does_store (vs := [.int .i64 x0.fPrev, .int .i64 x0.fHeight, .int .i64 x0.fMiner, u2608]) (cs' := [.int .i64 x0.fPrev, .int .i64 x0.fHeight, .int .i64 x0.fMiner, u2608]) rfl rfl rfl rfl tsz50 (Ones.int (Ones.int (Ones.int (Ones.rd (HM.own_rd 2 rfl) Ones.nil)))) rfl rfl HM) ?_
  rintro w2612 HM
  refine ops_nil ?_
  refine at_then ?_
  refine run_ret ?_
  replace HM := (HM.front 1 rfl rfl).drop
  replace HM := (HM.front 2 rfl rfl).drop
  have hcb0 := HM.box_at 0 rfl
  replace HM := (HM.front 0 rfl rfl).drop
  have hR := Option.some.inj H
  subst hR
  exact at_retN rfl rfl Try.underlying50 rfl tsz50 rfl hcb0 ⟨_, rfl, _, rfl, HM⟩
end Go.Proofs.Ytkofpnbacgccnaa.Zk
