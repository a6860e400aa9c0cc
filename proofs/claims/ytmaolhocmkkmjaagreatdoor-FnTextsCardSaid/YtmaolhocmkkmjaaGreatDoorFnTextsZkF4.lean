/- What functions of the program compute, each as a plain function, and that they do. Conditions: as each theorem states them. -/
import Derived.Test.YtmaolhocmkkmjaaGreatDoorFnTextsZkF3
namespace Go.Proofs.YtmaolhocmkkmjaaGreatDoor.Zk
open Go Go.RowKit Go.IntWalk Go.Proofs
set_option linter.unusedVariables false
set_option linter.unusedSimpArgs false
set_option maxRecDepth 100000
set_option maxHeartbeats 4000000
def impl_readOut.f (k : Nat) (x0 : ByteArray) : Option (Out × Bool) := ((strings_Cut.f k x0 (⟨#[61]⟩ : ByteArray)).bind fun t2974 => ((impl_readRule.f k t2974.2.1 (⟨#[95]⟩ : ByteArray)).bind fun t2977 => ((impl_number.f k t2974.1).bind fun t2987 => some ((⟨t2987, (⟨t2977.1.fKeys, t2977.1.fNeed, t2977.1.fAfter⟩ : Rule)⟩ : Out), t2977.2))))
theorem impl_readOut.calls {k : Nat} {x0 : ByteArray}  {w : World} (htab : TabP w)  {r : Out × Bool} (H : impl_readOut.f k x0 = some r) :
    Calls Tryz.prog 47 ([.string x0] : List Value).toArray w (fun e w_ => ∃ v, e = .returned v ∧ ∃ u0 : Value, v = (.tuple #[.agg #[.int .i64 r.1.fValue, u0, .int .i64 r.1.fRule.fNeed, .int .i64 r.1.fRule.fAfter], .bool r.2]) ∧ Mem w [] w_ [own kInt 2 u0 r.1.fRule.fKeys]) := by
  have HM := Mem.start w
  refine calls_run (N := 25) Tryz.func47 rfl rfl rfl rfl ?_
  unfold impl_readOut.f at H
  refine run_seq ?_
  refine run_region rfl ?_
  refine od rfl rfl rfl rfl (does_alloc (cs := [.int .i64 0, .slice none 0 0, .int .i64 0, .int .i64 0]) rfl tz44 rfl HM) ?_
  rintro _ w2973 ⟨b2970, rfl, HM⟩
  refine ox rfl rfl rfl rfl (ex_assign rfl rfl) ?_
  refine ops_nil (at_then (run_seq ?_))
  obtain ⟨t2974, h2975, H⟩ := bind_some H
  refine run_region rfl ?_
  refine ox rfl rfl rfl rfl (ex_move rfl rfl) ?_
  refine od rfl rfl rfl rfl (does_callk rfl callok46 rfl (strings_Cut.calls (x0 := x0) (x1 := (⟨#[61]⟩ : ByteArray)) (HM.tabP htab) h2975)) ?_
  rintro _ w2976 ⟨rfl, hn⟩
  replace HM : Mem w [] w2976 [box b2970 44 [.int .i64 0, .slice none 0 0, .int .i64 0, .int .i64 0]] := HM.call hn
  refine ox rfl rfl rfl rfl (ex_move rfl rfl) ?_
  refine ox rfl rfl rfl rfl (ex_extract rfl rfl rfl) ?_
  refine ox rfl rfl rfl rfl (ex_extract rfl rfl rfl) ?_
  refine ox rfl rfl rfl rfl (ex_extract rfl rfl rfl) ?_
  refine ox rfl rfl rfl rfl (ex_assign rfl rfl) ?_
  refine ox rfl rfl rfl rfl (ex_assign rfl rfl) ?_
  refine ox rfl rfl rfl rfl (ex_assign rfl rfl) ?_
  refine ops_nil (at_then (run_seq ?_))
  obtain ⟨t2977, h2978, H⟩ := bind_some H
  refine run_region rfl ?_
  refine ox rfl rfl rfl rfl (ex_move rfl rfl) ?_
  refine od rfl rfl rfl rfl (does_callk rfl callok69 rfl (impl_readRule.calls (x0 := t2974.2.1) (x1 := (⟨#[95]⟩ : ByteArray)) (HM.tabP htab) h2978)) ?_
  rintro _ w2984 ⟨u2979, rfl, hn⟩
  replace HM : Mem w [] w2984 [own kInt 2 u2979 t2977.1.fKeys, box b2970 44 [.int .i64 0, .slice none 0 0, .int .i64 0, .int .i64 0]] := HM.call hn
  refine ox rfl rfl rfl rfl (ex_move rfl rfl) ?_
  refine ox rfl rfl rfl rfl (ex_extract rfl rfl rfl) ?_
  refine ox rfl rfl rfl rfl (ex_extract rfl rfl rfl) ?_
  refine od rfl rfl rfl rfl (does_alloc (cs := [.slice none 0 0, .int .i64 0, .int .i64 0]) rfl tz42 rfl HM) ?_
  rintro _ w2985 ⟨b2981, rfl, HM⟩
  refine odS rfl rfl rfl (does_store (vs := [u2979, .int .i64 t2977.1.fNeed, .int .i64 t2977.1.fAfter]) (cs' := [u2979, .int .i64 t2977.1.fNeed, .int .i64 t2977.1.fAfter]) rfl rfl rfl rfl tsz42 (Ones.rd (HM.own_rd 1 rfl) (Ones.int (Ones.int Ones.nil))) rfl rfl HM) ?_
  rintro w2986 HM
  refine ox rfl rfl rfl rfl (ex_assign rfl rfl) ?_
  refine ops_nil (at_then (run_seq ?_))
  obtain ⟨t2987, h2988, H⟩ := bind_some H
  replace HM := HM.front 2 rfl rfl
  refine run_drawf (fun w_ => Mem w [] w_ [box b2981 42 [u2979, .int .i64 t2977.1.fNeed, .int .i64 t2977.1.fAfter], own kInt 2 u2979 t2977.1.fKeys]) [(0, true), (2, true), (4, true), (1, false), (3, true), (5, false), (6, true)] mixed rfl rfl (by kernel_rfl) ?_
  replace HM := HM.grow (fr_drew _)
  have hS := Mem.suf (M := [box b2970 44 [.int .i64 0, .slice none 0 0, .int .i64 0, .int .i64 0]]) HM
  refine dp rfl rfl rfl rfl (ex_move rfl rfl) hS ?_
  refine drwp_take rfl (guard_none rfl) rfl rfl (fun w_ hS_ => (ex_loadN (cs := [u2979, (.int .i64 t2977.1.fNeed), (.int .i64 t2977.1.fAfter)]) rfl rfl Tryz.underlying42 rfl tsz42 rfl ((hS_.box_at 0 rfl).sub 0 3 rfl))) hS ?_
  refine dp rfl rfl rfl rfl (ex_move rfl rfl) hS ?_
  refine drwp_one rfl (guard_none rfl) rfl rfl (does_callk rfl callok45 rfl (impl_number.calls (x0 := t2974.1) (HM.tabP htab) h2988)) ?_
  rintro _ w2989 ⟨rfl, hn⟩
  replace HM : Mem w [] w2989 [box b2970 44 [.int .i64 0, .slice none 0 0, .int .i64 0, .int .i64 0], box b2981 42 [u2979, .int .i64 t2977.1.fNeed, .int .i64 t2977.1.fAfter], own kInt 2 u2979 t2977.1.fKeys] := HM.call hn
  have hS := Mem.suf (M := [box b2970 44 [.int .i64 0, .slice none 0 0, .int .i64 0, .int .i64 0]]) HM
  refine ⟨hS, ?_⟩
  refine drwp_take rfl (guard_none rfl) rfl rfl (fun w_ hS_ => (ex_build1 (fun u2979 => [(0, .int .i64 t2987), (1, .agg #[u2979, (.int .i64 t2977.1.fNeed), (.int .i64 t2977.1.fAfter)])]) (fun u2979 => #[.int .i64 t2987, u2979, .int .i64 t2977.1.fNeed, .int .i64 t2977.1.fAfter]) rfl rfl (fun _ _ _ => by kernel_rfl) (hS_.own_rd 1 rfl).isSl)) hS ?_
  refine drwp_oneS rfl (guard_none rfl) rfl (does_store (vs := [.int .i64 t2987, u2979, .int .i64 t2977.1.fNeed, .int .i64 t2977.1.fAfter]) (cs' := [.int .i64 t2987, u2979, .int .i64 t2977.1.fNeed, .int .i64 t2977.1.fAfter]) rfl rfl rfl rfl tsz44 (Ones.int (Ones.rd (HM.own_rd 2 rfl) (Ones.int (Ones.int Ones.nil)))) rfl rfl HM) ?_
  rintro w2990 HM
  have hS := Mem.suf (M := [box b2970 44 [.int .i64 t2987, u2979, .int .i64 t2977.1.fNeed, .int .i64 t2977.1.fAfter]]) HM
  refine ⟨hS, ?_⟩
  refine dp rfl rfl rfl rfl (ex_assign rfl rfl) hS ?_
  refine drwp_done ?_
  refine at_then ?_
  refine run_ret ?_
  replace HM := (HM.front 1 rfl rfl).drop
  have hcb0 := HM.box_at 0 rfl
  replace HM := (HM.front 0 rfl rfl).drop
  have hR := Option.some.inj H
  subst hR
  exact at_retN1 rfl rfl rfl Tryz.underlying44 rfl tsz44 rfl hcb0 ⟨_, rfl, _, rfl, HM⟩

def impl_TxFault_1.f (k : Nat) (x0 : Int) : Option Bool := some ((decide (x0 < 1)) || (decide (4 < x0)))
theorem impl_TxFault_1.calls {k : Nat} {x0 : Int}  {w : World}  {r : Bool} (H : impl_TxFault_1.f k x0 = some r) :
    Calls Tryz.prog 26 ([.int .i64 x0] : List Value).toArray w (fun e w_ => ∃ v, e = .returned v ∧ v = (.bool r) ∧ Mem w [] w_ []) := by
  have HM := Mem.start w
  refine calls_run (N := 9) Tryz.func26 rfl rfl rfl rfl ?_
  unfold impl_TxFault_1.f at H
  refine run_seq ?_
  refine run_region rfl ?_
  refine ox rfl rfl rfl rfl (ex_assign rfl rfl) ?_
  refine ops_nil (at_then (run_seq ?_))
  refine run_meet (fun ρ_ w_ => ρ_ = [(2, .bool ((decide (x0 < 1)) || (decide (4 < x0))))] ∧ Mem w [] w_ []) ?_ ?_
  · skip
    refine run_region rfl ?_
    refine ox rfl rfl rfl rfl (ex_move rfl rfl) ?_
    refine ox rfl rfl rfl rfl (ex_lss rfl rfl rfl) ?_
    refine ox rfl rfl rfl rfl (ex_move rfl rfl) ?_
    refine bool_cases (decide (x0 < 1)) (fun hg3060 => ?_) (fun hg3060 => ?_)
    · skip
      refine ops_off rfl (guard_off rfl rfl rfl hg3060) rfl rfl ?_
      refine ops_off rfl (guard_off rfl rfl rfl hg3060) rfl rfl ?_
      have hg3061 : ((decide (x0 < 1)) || (decide (4 < x0))) = true := by simp only [hg3060, Bool.and_true, Bool.true_and, Bool.and_false, Bool.false_and, Bool.or_true, Bool.true_or, Bool.or_false, Bool.false_or, Bool.not_true, Bool.not_false, Bool.not_not]
      refine ops_ex (v := .bool ((decide (x0 < 1)) || (decide (4 < x0)))) rfl (guard_none rfl) rfl rfl (ex_por_t rfl rfl hg3060) ?_
      refine ox rfl rfl rfl rfl (ex_assign rfl rfl) ?_
      refine ops_nil ?_
      exact at_meet [(2, .bool ((decide (x0 < 1)) || (decide (4 < x0))))] ⟨rfl, HM⟩ (Sub.cons rfl Sub.nil)
    · skip
      refine ops_ex rfl (guard_on rfl rfl rfl hg3060) rfl rfl (ex_move rfl rfl) ?_
      refine ops_ex rfl (guard_on rfl rfl rfl hg3060) rfl rfl (ex_gtr rfl rfl rfl) ?_
      refine ops_ex (v := .bool ((decide (x0 < 1)) || (decide (4 < x0)))) rfl (guard_none rfl) rfl rfl (ex_por_f rfl rfl hg3060 rfl) ?_
      refine ox rfl rfl rfl rfl (ex_assign rfl rfl) ?_
      refine ops_nil ?_
      exact at_meet [(2, .bool ((decide (x0 < 1)) || (decide (4 < x0))))] ⟨rfl, HM⟩ (Sub.cons rfl Sub.nil)
  · rintro _ w3062 ⟨rfl, HM⟩
    refine at_then ?_
    refine run_ret ?_
    have hR := Option.some.inj H
    subst hR
    exact at_ret1 rfl rfl ⟨_, rfl, rfl, HM⟩

def impl_isId.f (k : Nat) (x0 : Int) : Option Bool := ((impl_within.f k x0 1 60).bind fun t3090 => some t3090)
theorem impl_isId.calls {k : Nat} {x0 : Int}  {w : World}  {r : Bool} (H : impl_isId.f k x0 = some r) :
    Calls Tryz.prog 60 ([.int .i64 x0] : List Value).toArray w (fun e w_ => ∃ v, e = .returned v ∧ v = (.bool r) ∧ Mem w [] w_ []) := by
  have HM := Mem.start w
  refine calls_run (N := 5) Tryz.func60 rfl rfl rfl rfl ?_
  unfold impl_isId.f at H
  refine run_seq ?_
  refine run_region rfl ?_
  refine ox rfl rfl rfl rfl (ex_assign rfl rfl) ?_
  refine ops_nil (at_then (run_seq ?_))
  obtain ⟨t3090, h3091, H⟩ := bind_some H
  refine run_region rfl ?_
  refine ox rfl rfl rfl rfl (ex_move rfl rfl) ?_
  refine od rfl rfl rfl rfl (does_callk rfl callok27 rfl (impl_within.calls (x0 := x0) (x1 := 1) (x2 := 60) h3091)) ?_
  rintro _ w3092 ⟨rfl, hn⟩
  replace HM : Mem w [] w3092 [] := HM.call hn
  refine ox rfl rfl rfl rfl (ex_assign rfl rfl) ?_
  refine ops_nil (at_then ?_)
  refine run_ret ?_
  have hR := Option.some.inj H
  subst hR
  exact at_ret1 rfl rfl ⟨_, rfl, rfl, HM⟩

def impl_isRef.f (k : Nat) (x0 : Ref) : Option Bool := ((impl_isId.f k x0.fTx).bind fun t3101 => ((bif t3101 then impl_within.f k x0.fAt 0 3 else some default).bind fun t3103 => some (t3101 && t3103)))
theorem impl_isRef.calls {k : Nat} {x0 : Ref}  {w : World}  {r : Bool} (H : impl_isRef.f k x0 = some r) :
    Calls Tryz.prog 29 ([.agg #[(.int .i64 x0.fTx), (.int .i64 x0.fAt)]] : List Value).toArray w (fun e w_ => ∃ v, e = .returned v ∧ v = (.bool r) ∧ Mem w [] w_ []) := by
  have HM := Mem.start w
  refine calls_run (N := 11) Tryz.func29 rfl rfl rfl rfl ?_
  unfold impl_isRef.f at H
  refine run_seq ?_
  refine run_region rfl ?_
  refine od rfl rfl rfl rfl (does_box (cs := [.int .i64 x0.fTx, .int .i64 x0.fAt]) rfl rfl rfl HM) ?_
  rintro _ w3100 ⟨b3097, rfl, HM⟩
  refine ox rfl rfl rfl rfl (ex_assign rfl rfl) ?_
  refine ops_nil (at_then (run_seq ?_))
  obtain ⟨t3101, h3102, H⟩ := bind_some H
  obtain ⟨t3103, h3104, H⟩ := bind_some H
  refine run_meet (fun ρ_ w_ => ρ_ = [(2, .bool (t3101 && t3103))] ∧ Mem w [] w_ []) ?_ ?_
  · skip
    refine run_region rfl ?_
    refine ox rfl rfl rfl rfl (ex_fieldAddr (off' := 0) rfl rfl Tryz.underlying62 rfl tsz2 rfl) ?_
    refine ox rfl rfl rfl rfl (ex_load1 rfl rfl Tryz.underlying2 rfl ((HM.box_at 0 rfl) 0 _ rfl)) ?_
    refine od rfl rfl rfl rfl (does_callk rfl callok60 rfl (impl_isId.calls (x0 := x0.fTx) h3102)) ?_
    rintro _ w3105 ⟨rfl, hn⟩
    replace HM : Mem w [] w3105 [box b3097 62 [.int .i64 x0.fTx, .int .i64 x0.fAt]] := HM.call hn
    refine ox rfl rfl rfl rfl (ex_move rfl rfl) ?_
    refine bool_cases t3101 (fun hg3106 => ?_) (fun hg3106 => ?_)
    · skip
      refine ops_ex rfl (guard_on rfl rfl rfl hg3106) rfl rfl (ex_fieldAddr (off' := 1) rfl rfl Tryz.underlying62 rfl tsz2 rfl) ?_
      refine ops_ex rfl (guard_on rfl rfl rfl hg3106) rfl rfl (ex_load1 rfl rfl Tryz.underlying2 rfl ((HM.box_at 0 rfl) 1 _ rfl)) ?_
      refine ops_does rfl (guard_on rfl rfl rfl hg3106) rfl rfl (does_callk rfl callok27 rfl (impl_within.calls (x0 := x0.fAt) (x1 := 0) (x2 := 3) (cond_t hg3106 h3104))) ?_
      rintro _ w3107 ⟨rfl, hn⟩
      replace HM : Mem w [] w3107 [box b3097 62 [.int .i64 x0.fTx, .int .i64 x0.fAt]] := HM.call hn
      refine ops_ex (v := .bool (t3101 && t3103)) rfl (guard_none rfl) rfl rfl (ex_pand_t rfl rfl hg3106 rfl) ?_
      refine ox rfl rfl rfl rfl (ex_assign rfl rfl) ?_
      refine ops_nil ?_
      replace HM := (HM.front 0 rfl rfl).drop
      exact at_meet [(2, .bool (t3101 && t3103))] ⟨rfl, HM⟩ (Sub.cons rfl Sub.nil)
    · skip
      refine ops_off rfl (guard_off rfl rfl rfl hg3106) rfl rfl ?_
      refine ops_off rfl (guard_off rfl rfl rfl hg3106) rfl rfl ?_
      refine ops_off rfl (guard_off rfl rfl rfl hg3106) rfl rfl ?_
      have hg3108 : (t3101 && t3103) = false := by simp only [hg3106, Bool.and_true, Bool.true_and, Bool.and_false, Bool.false_and, Bool.or_true, Bool.true_or, Bool.or_false, Bool.false_or, Bool.not_true, Bool.not_false, Bool.not_not]
      refine ops_ex (v := .bool (t3101 && t3103)) rfl (guard_none rfl) rfl rfl (ex_pand_f rfl rfl hg3106) ?_
      refine ox rfl rfl rfl rfl (ex_assign rfl rfl) ?_
      refine ops_nil ?_
      replace HM := (HM.front 0 rfl rfl).drop
      exact at_meet [(2, .bool (t3101 && t3103))] ⟨rfl, HM⟩ (Sub.cons rfl Sub.nil)
  · rintro _ w3109 ⟨rfl, HM⟩
    refine at_then ?_
    refine run_ret ?_
    have hR := Option.some.inj H
    subst hR
    exact at_ret1 rfl rfl ⟨_, rfl, rfl, HM⟩

def slices_Index_impl_Ref.l0 (x0 : List Ref) (x1 : Ref) : Nat → Int → Option (Int ⊕ Unit)
  | 0, _ => none
  | k + 1, a3164 => (bif (decide (a3164 < (x0.length : Int))) then (chk (idxOk a3164 x0.length) (bif ((x1.fTx == ((gt x0 a3164).fTx)) && (x1.fAt == ((gt x0 a3164).fAt))) then some (.inl a3164) else slices_Index_impl_Ref.l0 x0 x1 k (wrap64 (a3164 + 1)))) else some (.inr ()))
theorem slices_Index_impl_Ref.l0_z (x0 : List Ref) (x1 : Ref) (a3164 : Int) : slices_Index_impl_Ref.l0 x0 x1 0 a3164 = none := rfl
theorem slices_Index_impl_Ref.l0_s (x0 : List Ref) (x1 : Ref) (k : Nat) (a3164 : Int) : slices_Index_impl_Ref.l0 x0 x1 (k + 1) a3164 = (bif (decide (a3164 < (x0.length : Int))) then (chk (idxOk a3164 x0.length) (bif ((x1.fTx == ((gt x0 a3164).fTx)) && (x1.fAt == ((gt x0 a3164).fAt))) then some (.inl a3164) else slices_Index_impl_Ref.l0 x0 x1 k (wrap64 (a3164 + 1)))) else some (.inr ())) := rfl
def slices_Index_impl_Ref.f (k : Nat) (x0 : List Ref) (x1 : Ref) : Option Int := ((slices_Index_impl_Ref.l0 x0 x1 k 0).bind fun o3158 => thn o3158 (fun r => some r) (fun _ => some (-1)))
theorem slices_Index_impl_Ref.calls {k : Nat} {x0 : List Ref} {x1 : Ref} {p0 : Value} {w : World} (hp0 : RdS kRef w p0 x0) {r : Int} (H : slices_Index_impl_Ref.f k x0 x1 = some r) :
    Calls Tryz.prog 61 ([p0, .agg #[(.int .i64 x1.fTx), (.int .i64 x1.fAt)]] : List Value).toArray w (fun e w_ => ∃ v, e = .returned v ∧ v = (.int .i64 r) ∧ Mem w [] w_ []) := by
  have HM := Mem.start w
  refine calls_run (N := 19) Tryz.func61 rfl rfl rfl rfl ?_
  unfold slices_Index_impl_Ref.f at H
  refine run_seq ?_
  refine run_region rfl ?_
  refine od rfl rfl rfl rfl (does_box (cs := [.int .i64 x1.fTx, .int .i64 x1.fAt]) rfl rfl rfl HM) ?_
  rintro _ w3144 ⟨b3141, rfl, HM⟩
  refine ox rfl rfl rfl rfl (ex_assign rfl rfl) ?_
  refine ops_nil (at_then ?_)
  obtain ⟨o3158, ho3159, H⟩ := bind_some H
  refine run_mid (fun ρ_ w_ => Sum.inr () = o3158 ∧ ρ_ = [] ∧ Mem w [] w_ []) ?_ ?_
  · skip
    refine run_seq ?_
    refine run_region rfl ?_
    refine ox rfl rfl rfl rfl (ex_move rfl rfl) ?_
    refine ox rfl rfl rfl rfl (ex_len (d := kRef) (xs := x0) rfl rfl Tryz.underlying25 hp0) ?_
    refine ox rfl rfl rfl rfl (ex_move rfl rfl) ?_
    refine ops_nil (at_then ?_)
    refine run_block ?_
    refine run_loop (fun k_ ρ_ w_ => ∃ a3164 : Int, slices_Index_impl_Ref.l0 x0 x1 k_ a3164 = some o3158 ∧ ρ_ = [(0, p0), (3, .pointer (some ⟨b3141, 0, none⟩)), (7, .int .i64 (x0.length : Int)), (8, .int .i64 a3164)] ∧ Mem w [] w_ [box b3141 62 [.int .i64 x1.fTx, .int .i64 x1.fAt]]) k (ρ1 := [(0, p0), (3, .pointer (some ⟨b3141, 0, none⟩)), (7, .int .i64 (x0.length : Int)), (8, .int .i64 0)]) ⟨_, ho3159, rfl, HM⟩ (Sub.cons rfl (Sub.cons rfl (Sub.cons rfl (Sub.cons rfl Sub.nil)))) ?_
    clear HM ho3159
    rintro k3169 _ w3170 ⟨a3164, ho3159, rfl, HM⟩
    obtain _ | k3169 := k3169
    · exact nomatch ((slices_Index_impl_Ref.l0_z x0 x1 a3164).symm.trans ho3159)
    replace ho3159 := (slices_Index_impl_Ref.l0_s x0 x1 k3169 a3164).symm.trans ho3159
    refine run_seq ?_
    refine run_region rfl ?_
    refine ox rfl rfl rfl rfl (ex_lss rfl rfl rfl) ?_
    refine ops_nil (at_then (run_seq ?_))
    refine run_cond (b := (decide (a3164 < (x0.length : Int)))) rfl (fun hb3171 => ?_) (fun hb3171 => ?_)
    · replace ho3159 := cond_t hb3171 ho3159
      refine run_skip ?_
      refine at_then ?_
      refine run_seq ?_
      refine run_block ?_
      refine run_seq ?_
      refine run_region rfl ?_
      refine ox rfl rfl rfl rfl (ex_move rfl rfl) ?_
      refine ox rfl rfl rfl rfl (ex_assign rfl rfl) ?_
      refine ops_nil (at_then (run_seq ?_))
      obtain ⟨e3172, ho3159⟩ := chk_some ho3159
      refine run_drawf (fun w_ => Mem w [] w_ [box b3141 62 [.int .i64 x1.fTx, .int .i64 x1.fAt]]) [(0, true), (1, true), (2, true), (3, true), (4, true), (5, true)] mixed rfl rfl (by kernel_rfl) ?_
      replace HM := HM.grow (fr_drew _)
      have hS := Mem.suf (M := []) HM
      refine drwp_take rfl (guard_none rfl) rfl rfl (fun w_ hS_ => (ex_loadN (cs := [(.int .i64 x1.fTx), (.int .i64 x1.fAt)]) rfl rfl Tryz.underlying62 rfl tsz62 rfl ((hS_.box_at 0 rfl).sub 0 2 rfl))) hS ?_
      refine dp rfl rfl rfl rfl (ex_move rfl rfl) hS ?_
      refine dp rfl rfl rfl rfl (ex_move rfl rfl) hS ?_
      have hc3173 : CellsAt _ (sb p0) (so p0 + (a3164).toNat * 2) [(.int .i64 ((gt x0 a3164).fTx)), (.int .i64 ((gt x0 a3164).fAt))] := rd_plain hp0 e3172
      refine dp rfl rfl rfl rfl (ex_indexAddr (d := kRef) rfl rfl rfl Tryz.underlying25 tsz62 hp0 (idx_lo e3172) (idx_hi e3172)) hS ?_
      refine drwp_take rfl (guard_none rfl) rfl rfl (fun w_ hS_ => (ex_loadN (cs := [(.int .i64 ((gt x0 a3164).fTx)), (.int .i64 ((gt x0 a3164).fAt))]) rfl rfl Tryz.underlying62 rfl tsz62 rfl ((hS_.at_ hc3173).sub 0 2 rfl))) hS ?_
      refine dp rfl rfl rfl rfl (ex_aeql rfl rfl rfl (by kernel_rfl) (eqs62 _ _ _ _ _)) hS ?_
      refine drwp_done ?_
      refine at_then ?_
      refine run_cond (b := ((x1.fTx == ((gt x0 a3164).fTx)) && (x1.fAt == ((gt x0 a3164).fAt)))) rfl (fun hb3174 => ?_) (fun hb3174 => ?_)
      · replace ho3159 := cond_t hb3174 ho3159
        refine run_seq ?_
        refine run_region rfl ?_
        refine ox rfl rfl rfl rfl (ex_move rfl rfl) ?_
        refine ox rfl rfl rfl rfl (ex_assign rfl rfl) ?_
        refine ops_nil (at_then ?_)
        refine run_ret ?_
        refine at_block_ret ?_
        refine at_then_ret ?_
        refine at_then_ret ?_
        refine at_block_ret ?_
        refine at_then_ret ?_
        replace HM := (HM.front 0 rfl rfl).drop
        have hR := Option.some.inj ho3159
        subst hR
        have hT := thn_inl H
        have hR := Option.some.inj hT
        subst hR
        exact at_ret1 rfl rfl ⟨_, rfl, rfl, HM⟩
      · replace ho3159 := cond_f hb3174 ho3159
        refine run_skip ?_
        refine at_block ?_
        refine at_then ?_
        refine run_region rfl ?_
        refine ox rfl rfl rfl rfl (ex_add rfl rfl rfl) ?_
        refine ox rfl rfl rfl rfl (ex_move rfl rfl) ?_
        refine ops_nil ?_
        exact at_again k3169 (ρ1 := [(0, p0), (3, .pointer (some ⟨b3141, 0, none⟩)), (7, .int .i64 (x0.length : Int)), (8, .int .i64 (wrap64 (a3164 + 1)))]) (Nat.lt_succ_self _) ⟨_, ho3159, rfl, HM⟩ (Sub.cons rfl (Sub.cons rfl (Sub.cons rfl (Sub.cons rfl Sub.nil))))
    · replace ho3159 := cond_f hb3171 ho3159
      refine run_exit ?_
      refine at_then_exit ?_
      refine at_then_exit ?_
      refine at_block_exit ?_
      replace HM := (HM.front 0 rfl rfl).drop
      exact at_mid (ρ' := []) ⟨(Option.some.inj ho3159), rfl, HM⟩ Sub.nil
  · rintro _ w3175 ⟨rfl, rfl, HM⟩
    replace H := (thn_inr H)
    refine run_seq ?_
    refine run_region rfl ?_
    refine ox rfl rfl rfl rfl (ex_assign rfl rfl) ?_
    refine ops_nil (at_then ?_)
    refine run_ret ?_
    have hR := Option.some.inj H
    subst hR
    exact at_ret1 rfl rfl ⟨_, rfl, rfl, HM⟩

def slices_Contains_impl_Ref.f (k : Nat) (x0 : List Ref) (x1 : Ref) : Option Bool := ((slices_Index_impl_Ref.f k x0 x1).bind fun t3182 => some (decide (0 ≤ t3182)))
theorem slices_Contains_impl_Ref.calls {k : Nat} {x0 : List Ref} {x1 : Ref} {p0 : Value} {w : World} (hp0 : RdS kRef w p0 x0) {r : Bool} (H : slices_Contains_impl_Ref.f k x0 x1 = some r) :
    Calls Tryz.prog 30 ([p0, .agg #[(.int .i64 x1.fTx), (.int .i64 x1.fAt)]] : List Value).toArray w (fun e w_ => ∃ v, e = .returned v ∧ v = (.bool r) ∧ Mem w [] w_ []) := by
  have HM := Mem.start w
  refine calls_run (N := 9) Tryz.func30 rfl rfl rfl rfl ?_
  unfold slices_Contains_impl_Ref.f at H
  refine run_seq ?_
  refine run_region rfl ?_
  refine od rfl rfl rfl rfl (does_box (cs := [.int .i64 x1.fTx, .int .i64 x1.fAt]) rfl rfl rfl HM) ?_
  rintro _ w3181 ⟨b3178, rfl, HM⟩
  refine ox rfl rfl rfl rfl (ex_assign rfl rfl) ?_
  refine ops_nil (at_then (run_seq ?_))
  obtain ⟨t3182, h3183, H⟩ := bind_some H
  refine run_region rfl ?_
  refine ox rfl rfl rfl rfl (ex_move rfl rfl) ?_
  refine ox rfl rfl rfl rfl (ex_loadN (cs := [(.int .i64 x1.fTx), (.int .i64 x1.fAt)]) rfl rfl Tryz.underlying62 rfl tsz62 rfl ((HM.box_at 0 rfl).sub 0 2 rfl)) ?_
  refine od rfl rfl rfl rfl (does_callk rfl callok61 rfl (slices_Index_impl_Ref.calls (x0 := x0) (x1 := x1) (HM.rd hp0) h3183)) ?_
  rintro _ w3184 ⟨rfl, hn⟩
  replace HM : Mem w [] w3184 [box b3178 62 [.int .i64 x1.fTx, .int .i64 x1.fAt]] := HM.call hn
  refine ox rfl rfl rfl rfl (ex_geq rfl rfl rfl) ?_
  refine ox rfl rfl rfl rfl (ex_assign rfl rfl) ?_
  refine ops_nil (at_then ?_)
  refine run_ret ?_
  replace HM := (HM.front 0 rfl rfl).drop
  have hR := Option.some.inj H
  subst hR
  exact at_ret1 rfl rfl ⟨_, rfl, rfl, HM⟩

def impl_outFault.f (k : Nat) (x0 : Out) : Option Int := ((impl_within.f k x0.fValue 1 1000000).bind fun t3249 => (bif !t3249 then some 3 else ((impl_RuleFault.f k x0.fRule).bind fun t3253 => some t3253)))
theorem impl_outFault.calls {k : Nat} {x0 : Out} {p0_0 : Value} {w : World} (hp0_0 : RdS kInt w p0_0 x0.fRule.fKeys) {r : Int} (H : impl_outFault.f k x0 = some r) :
    Calls Tryz.prog 31 ([.agg #[(.int .i64 x0.fValue), p0_0, (.int .i64 x0.fRule.fNeed), (.int .i64 x0.fRule.fAfter)]] : List Value).toArray w (fun e w_ => ∃ v, e = .returned v ∧ v = (.int .i64 r) ∧ Mem w [] w_ []) := by
  have HM := Mem.start w
  refine calls_run (N := 10) Tryz.func31 rfl rfl rfl rfl ?_
  unfold impl_outFault.f at H
  refine run_seq ?_
  refine run_region rfl ?_
  refine od rfl rfl rfl rfl (does_box (cs := [.int .i64 x0.fValue, p0_0, .int .i64 x0.fRule.fNeed, .int .i64 x0.fRule.fAfter]) rfl rfl rfl HM) ?_
  rintro _ w3248 ⟨b3245, rfl, HM⟩
  refine ox rfl rfl rfl rfl (ex_assign rfl rfl) ?_
  refine ops_nil (at_then (run_seq ?_))
  refine run_seq ?_
  obtain ⟨t3249, h3250, H⟩ := bind_some H
  refine run_region rfl ?_
  refine ox rfl rfl rfl rfl (ex_fieldAddr (off' := 0) rfl rfl Tryz.underlying44 rfl tsz2 rfl) ?_
  refine ox rfl rfl rfl rfl (ex_load1 rfl rfl Tryz.underlying2 rfl ((HM.box_at 0 rfl) 0 _ rfl)) ?_
  refine od rfl rfl rfl rfl (does_callk rfl callok27 rfl (impl_within.calls (x0 := x0.fValue) (x1 := 1) (x2 := 1000000) h3250)) ?_
  rintro _ w3251 ⟨rfl, hn⟩
  replace HM : Mem w [] w3251 [box b3245 44 [.int .i64 x0.fValue, p0_0, .int .i64 x0.fRule.fNeed, .int .i64 x0.fRule.fAfter]] := HM.call hn
  refine ox rfl rfl rfl rfl (ex_not rfl rfl) ?_
  refine ops_nil (at_then ?_)
  refine run_cond (b := !t3249) rfl (fun hb3252 => ?_) (fun hb3252 => ?_)
  · replace H := cond_t hb3252 H
    refine run_seq ?_
    refine run_region rfl ?_
    refine ox rfl rfl rfl rfl (ex_assign rfl rfl) ?_
    refine ops_nil (at_then ?_)
    refine run_ret ?_
    refine at_then_ret ?_
    replace HM := (HM.front 0 rfl rfl).drop
    have hR := Option.some.inj H
    subst hR
    exact at_ret1 rfl rfl ⟨_, rfl, rfl, HM⟩
  · replace H := cond_f hb3252 H
    refine run_skip ?_
    refine at_then ?_
    refine run_seq ?_
    obtain ⟨t3253, h3254, H⟩ := bind_some H
    refine run_region rfl ?_
    refine ox rfl rfl rfl rfl (ex_fieldAddr (off' := 1) rfl rfl Tryz.underlying44 rfl tsz42 rfl) ?_
    refine ox rfl rfl rfl rfl (ex_loadN (cs := [p0_0, (.int .i64 x0.fRule.fNeed), (.int .i64 x0.fRule.fAfter)]) rfl rfl Tryz.underlying42 rfl tsz42 rfl ((HM.box_at 0 rfl).sub 1 3 rfl)) ?_
    refine od rfl rfl rfl rfl (does_callk rfl callok62 rfl (impl_RuleFault.calls (x0 := x0.fRule) (HM.rd hp0_0) h3254)) ?_
    rintro _ w3255 ⟨rfl, hn⟩
    replace HM : Mem w [] w3255 [box b3245 44 [.int .i64 x0.fValue, p0_0, .int .i64 x0.fRule.fNeed, .int .i64 x0.fRule.fAfter]] := HM.call hn
    refine ox rfl rfl rfl rfl (ex_assign rfl rfl) ?_
    refine ops_nil (at_then ?_)
    refine run_ret ?_
    replace HM := (HM.front 0 rfl rfl).drop
    have hR := Option.some.inj H
    subst hR
    exact at_ret1 rfl rfl ⟨_, rfl, rfl, HM⟩

def impl_TxFault.l0 (x0 : Tx) : Nat → Int → Option (Int ⊕ Unit)
  | 0, _ => none
  | k + 1, a3407 => (bif (decide (a3407 < (x0.fIns.length : Int))) then (chk (idxOk a3407 x0.fIns.length) ((impl_isRef.f k (gt x0.fIns a3407)).bind fun t3440 => (bif !t3440 then some (.inl 3) else (chk (cutOk a3407 x0.fIns.length) ((slices_Contains_impl_Ref.f k (x0.fIns.take (a3407).toNat) (gt x0.fIns a3407)).bind fun t3448 => (bif t3448 then some (.inl 7) else impl_TxFault.l0 x0 k (wrap64 (a3407 + 1)))))))) else some (.inr ()))
theorem impl_TxFault.l0_z (x0 : Tx) (a3407 : Int) : impl_TxFault.l0 x0 0 a3407 = none := rfl
theorem impl_TxFault.l0_s (x0 : Tx) (k : Nat) (a3407 : Int) : impl_TxFault.l0 x0 (k + 1) a3407 = (bif (decide (a3407 < (x0.fIns.length : Int))) then (chk (idxOk a3407 x0.fIns.length) ((impl_isRef.f k (gt x0.fIns a3407)).bind fun t3440 => (bif !t3440 then some (.inl 3) else (chk (cutOk a3407 x0.fIns.length) ((slices_Contains_impl_Ref.f k (x0.fIns.take (a3407).toNat) (gt x0.fIns a3407)).bind fun t3448 => (bif t3448 then some (.inl 7) else impl_TxFault.l0 x0 k (wrap64 (a3407 + 1)))))))) else some (.inr ())) := rfl
def impl_TxFault.l1 (x0 : Tx) : Nat → Int → Option (Int ⊕ Unit)
  | 0, _ => none
  | k + 1, a3500 => (bif (decide (a3500 < (x0.fOuts.length : Int))) then (chk (idxOk a3500 x0.fOuts.length) ((impl_outFault.f k (gt x0.fOuts a3500)).bind fun t3524 => (bif (t3524 != 0) then some (.inl t3524) else impl_TxFault.l1 x0 k (wrap64 (a3500 + 1))))) else some (.inr ()))
theorem impl_TxFault.l1_z (x0 : Tx) (a3500 : Int) : impl_TxFault.l1 x0 0 a3500 = none := rfl
theorem impl_TxFault.l1_s (x0 : Tx) (k : Nat) (a3500 : Int) : impl_TxFault.l1 x0 (k + 1) a3500 = (bif (decide (a3500 < (x0.fOuts.length : Int))) then (chk (idxOk a3500 x0.fOuts.length) ((impl_outFault.f k (gt x0.fOuts a3500)).bind fun t3524 => (bif (t3524 != 0) then some (.inl t3524) else impl_TxFault.l1 x0 k (wrap64 (a3500 + 1))))) else some (.inr ())) := rfl
def impl_TxFault.f (k : Nat) (x0 : Tx) : Option Int := ((impl_within.f k x0.fKind 0 2).bind fun t3304 => (bif ((!t3304) || ((x0.fKind == 0) != (x0.fMember == 0))) then some 1 else ((bif (x0.fMember != 0) then impl_isKey.f k x0.fMember else some default).bind fun t3311 => (bif ((x0.fMember != 0) && (!t3311)) then some 3 else ((impl_TxFault_1.f k (x0.fIns.length : Int)).bind fun t3318 => ((bif (!t3318) then impl_TxFault_1.f k (x0.fOuts.length : Int) else some default).bind fun t3320 => (bif (t3318 || t3320) then some 2 else ((impl_TxFault.l0 x0 k 0).bind fun o3386 => thn o3386 (fun r => some r) (fun _ => ((impl_TxFault.l1 x0 k 0).bind fun o3487 => thn o3487 (fun r => some r) (fun _ => (chk (!(x0.fKind == 1) || (idxOk (0 : Int) x0.fOuts.length)) (bif ((x0.fKind == 1) && (decide (((gt x0.fOuts (0 : Int)).fValue) < 100))) then some 8 else some 0)))))))))))))
theorem impl_TxFault.calls {k : Nat} {x0 : Tx} {p0_0 : Value} {p0_1 : Value} {w : World} (hp0_0 : RdS kRef w p0_0 x0.fIns) (hp0_1 : RdS kOut w p0_1 x0.fOuts) {r : Int} (H : impl_TxFault.f k x0 = some r) :
    Calls Tryz.prog 11 ([.agg #[(.int .i64 x0.fKind), (.int .i64 x0.fMember), p0_0, p0_1]] : List Value).toArray w (fun e w_ => ∃ v, e = .returned v ∧ v = (.int .i64 r) ∧ Mem w [] w_ []) := by
  have HM := Mem.start w
  refine calls_run (N := 88) Tryz.func11 rfl rfl rfl rfl ?_
  unfold impl_TxFault.f at H
  refine run_seq ?_
  refine run_region rfl ?_
  refine od rfl rfl rfl rfl (does_box (cs := [.int .i64 x0.fKind, .int .i64 x0.fMember, p0_0, p0_1]) rfl rfl rfl HM) ?_
  rintro _ w3292 ⟨b3289, rfl, HM⟩
  refine ox rfl rfl rfl rfl (ex_assign rfl rfl) ?_
  refine ops_nil (at_then (run_seq ?_))
  refine run_region rfl ?_
  refine ox rfl rfl rfl rfl (ex_assign rfl rfl) ?_
  refine ops_nil (at_then (run_seq ?_))
  refine run_block ?_
  refine run_seq ?_
  obtain ⟨t3304, h3305, H⟩ := bind_some H
  refine run_meet (fun ρ_ w_ => ρ_ = [(1, .pointer (some ⟨b3289, 0, none⟩)), (3, .func (.func 26) #[] #[]), (9, .bool ((!t3304) || ((x0.fKind == 0) != (x0.fMember == 0))))] ∧ Mem w [] w_ [box b3289 28 [.int .i64 x0.fKind, .int .i64 x0.fMember, p0_0, p0_1]]) ?_ ?_
  · skip
    refine run_region rfl ?_
    refine ox rfl rfl rfl rfl (ex_fieldAddr (off' := 0) rfl rfl Tryz.underlying28 rfl tsz2 rfl) ?_
    refine ox rfl rfl rfl rfl (ex_load1 rfl rfl Tryz.underlying2 rfl ((HM.box_at 0 rfl) 0 _ rfl)) ?_
    refine od rfl rfl rfl rfl (does_callk rfl callok27 rfl (impl_within.calls (x0 := x0.fKind) (x1 := 0) (x2 := 2) h3305)) ?_
    rintro _ w3306 ⟨rfl, hn⟩
    replace HM : Mem w [] w3306 [box b3289 28 [.int .i64 x0.fKind, .int .i64 x0.fMember, p0_0, p0_1]] := HM.call hn
    refine ox rfl rfl rfl rfl (ex_not rfl rfl) ?_
    refine ox rfl rfl rfl rfl (ex_move rfl rfl) ?_
    refine bool_cases (!t3304) (fun hg3307 => ?_) (fun hg3307 => ?_)
    · skip
      refine ops_off rfl (guard_off rfl rfl rfl hg3307) rfl rfl ?_
      refine ops_off rfl (guard_off rfl rfl rfl hg3307) rfl rfl ?_
      refine ops_off rfl (guard_off rfl rfl rfl hg3307) rfl rfl ?_
      refine ops_off rfl (guard_off rfl rfl rfl hg3307) rfl rfl ?_
      refine ops_off rfl (guard_off rfl rfl rfl hg3307) rfl rfl ?_
      refine ops_off rfl (guard_off rfl rfl rfl hg3307) rfl rfl ?_
      refine ops_off rfl (guard_off rfl rfl rfl hg3307) rfl rfl ?_
      have hg3308 : ((!t3304) || ((x0.fKind == 0) != (x0.fMember == 0))) = true := by simp only [hg3307, Bool.and_true, Bool.true_and, Bool.and_false, Bool.false_and, Bool.or_true, Bool.true_or, Bool.or_false, Bool.false_or, Bool.not_true, Bool.not_false, Bool.not_not]
      refine ops_ex (v := .bool ((!t3304) || ((x0.fKind == 0) != (x0.fMember == 0)))) rfl (guard_none rfl) rfl rfl (ex_por_t rfl rfl hg3307) ?_
      refine ox rfl rfl rfl rfl (ex_assign rfl rfl) ?_
      refine ops_nil ?_
      exact at_meet [(1, .pointer (some ⟨b3289, 0, none⟩)), (3, .func (.func 26) #[] #[]), (9, .bool ((!t3304) || ((x0.fKind == 0) != (x0.fMember == 0))))] ⟨rfl, HM⟩ (Sub.cons rfl (Sub.cons rfl (Sub.cons rfl Sub.nil)))
    · skip
      refine ops_ex rfl (guard_on rfl rfl rfl hg3307) rfl rfl (ex_fieldAddr (off' := 0) rfl rfl Tryz.underlying28 rfl tsz2 rfl) ?_
      refine ops_ex rfl (guard_on rfl rfl rfl hg3307) rfl rfl (ex_load1 rfl rfl Tryz.underlying2 rfl ((HM.box_at 0 rfl) 0 _ rfl)) ?_
      refine ops_ex rfl (guard_on rfl rfl rfl hg3307) rfl rfl (ex_eql rfl rfl rfl) ?_
      refine ops_ex rfl (guard_on rfl rfl rfl hg3307) rfl rfl (ex_fieldAddr (off' := 1) rfl rfl Tryz.underlying28 rfl tsz2 rfl) ?_
      refine ops_ex rfl (guard_on rfl rfl rfl hg3307) rfl rfl (ex_load1 rfl rfl Tryz.underlying2 rfl ((HM.box_at 0 rfl) 1 _ rfl)) ?_
      refine ops_ex rfl (guard_on rfl rfl rfl hg3307) rfl rfl (ex_eql rfl rfl rfl) ?_
      refine ops_ex rfl (guard_on rfl rfl rfl hg3307) rfl rfl (ex_bneq rfl rfl rfl Tryz.underlying4) ?_
      refine ops_ex (v := .bool ((!t3304) || ((x0.fKind == 0) != (x0.fMember == 0)))) rfl (guard_none rfl) rfl rfl (ex_por_f rfl rfl hg3307 rfl) ?_
      refine ox rfl rfl rfl rfl (ex_assign rfl rfl) ?_
      refine ops_nil ?_
      exact at_meet [(1, .pointer (some ⟨b3289, 0, none⟩)), (3, .func (.func 26) #[] #[]), (9, .bool ((!t3304) || ((x0.fKind == 0) != (x0.fMember == 0))))] ⟨rfl, HM⟩ (Sub.cons rfl (Sub.cons rfl (Sub.cons rfl Sub.nil)))
  · rintro _ w3309 ⟨rfl, HM⟩
    refine at_then ?_
    refine run_cond (b := ((!t3304) || ((x0.fKind == 0) != (x0.fMember == 0)))) rfl (fun hb3310 => ?_) (fun hb3310 => ?_)
    · replace H := cond_t hb3310 H
      refine run_seq ?_
      refine run_region rfl ?_
      refine ox rfl rfl rfl rfl (ex_assign rfl rfl) ?_
      refine ops_nil (at_then ?_)
      refine run_ret ?_
      refine at_block_ret ?_
      refine at_then_ret ?_
      replace HM := (HM.front 0 rfl rfl).drop
      have hR := Option.some.inj H
      subst hR
      exact at_ret1 rfl rfl ⟨_, rfl, rfl, HM⟩
    · replace H := cond_f hb3310 H
      refine run_seq ?_
      obtain ⟨t3311, h3312, H⟩ := bind_some H
      refine run_meet (fun ρ_ w_ => ρ_ = [(1, .pointer (some ⟨b3289, 0, none⟩)), (3, .func (.func 26) #[] #[]), (23, .bool ((x0.fMember != 0) && (!t3311)))] ∧ Mem w [] w_ [box b3289 28 [.int .i64 x0.fKind, .int .i64 x0.fMember, p0_0, p0_1]]) ?_ ?_
      · skip
        refine run_region rfl ?_
        refine ox rfl rfl rfl rfl (ex_fieldAddr (off' := 1) rfl rfl Tryz.underlying28 rfl tsz2 rfl) ?_
        refine ox rfl rfl rfl rfl (ex_load1 rfl rfl Tryz.underlying2 rfl ((HM.box_at 0 rfl) 1 _ rfl)) ?_
        refine ox rfl rfl rfl rfl (ex_neq rfl rfl rfl) ?_
        refine ox rfl rfl rfl rfl (ex_move rfl rfl) ?_
        refine bool_cases (x0.fMember != 0) (fun hg3313 => ?_) (fun hg3313 => ?_)
        · skip
          refine ops_ex rfl (guard_on rfl rfl rfl hg3313) rfl rfl (ex_fieldAddr (off' := 1) rfl rfl Tryz.underlying28 rfl tsz2 rfl) ?_
          refine ops_ex rfl (guard_on rfl rfl rfl hg3313) rfl rfl (ex_load1 rfl rfl Tryz.underlying2 rfl ((HM.box_at 0 rfl) 1 _ rfl)) ?_
          refine ops_does rfl (guard_on rfl rfl rfl hg3313) rfl rfl (does_callk rfl callok28 rfl (impl_isKey.calls (x0 := x0.fMember) (cond_t hg3313 h3312))) ?_
          rintro _ w3314 ⟨rfl, hn⟩
          replace HM : Mem w [] w3314 [box b3289 28 [.int .i64 x0.fKind, .int .i64 x0.fMember, p0_0, p0_1]] := HM.call hn
          refine ops_ex rfl (guard_on rfl rfl rfl hg3313) rfl rfl (ex_not rfl rfl) ?_
          refine ops_ex (v := .bool ((x0.fMember != 0) && (!t3311))) rfl (guard_none rfl) rfl rfl (ex_pand_t rfl rfl hg3313 rfl) ?_
          refine ox rfl rfl rfl rfl (ex_assign rfl rfl) ?_
          refine ops_nil ?_
          exact at_meet [(1, .pointer (some ⟨b3289, 0, none⟩)), (3, .func (.func 26) #[] #[]), (23, .bool ((x0.fMember != 0) && (!t3311)))] ⟨rfl, HM⟩ (Sub.cons rfl (Sub.cons rfl (Sub.cons rfl Sub.nil)))
        · skip
          refine ops_off rfl (guard_off rfl rfl rfl hg3313) rfl rfl ?_
          refine ops_off rfl (guard_off rfl rfl rfl hg3313) rfl rfl ?_
          refine ops_off rfl (guard_off rfl rfl rfl hg3313) rfl rfl ?_
          refine ops_off rfl (guard_off rfl rfl rfl hg3313) rfl rfl ?_
          have hg3315 : ((x0.fMember != 0) && (!t3311)) = false := by simp only [hg3313, Bool.and_true, Bool.true_and, Bool.and_false, Bool.false_and, Bool.or_true, Bool.true_or, Bool.or_false, Bool.false_or, Bool.not_true, Bool.not_false, Bool.not_not]
          refine ops_ex (v := .bool ((x0.fMember != 0) && (!t3311))) rfl (guard_none rfl) rfl rfl (ex_pand_f rfl rfl hg3313) ?_
          refine ox rfl rfl rfl rfl (ex_assign rfl rfl) ?_
          refine ops_nil ?_
          exact at_meet [(1, .pointer (some ⟨b3289, 0, none⟩)), (3, .func (.func 26) #[] #[]), (23, .bool ((x0.fMember != 0) && (!t3311)))] ⟨rfl, HM⟩ (Sub.cons rfl (Sub.cons rfl (Sub.cons rfl Sub.nil)))
      · rintro _ w3316 ⟨rfl, HM⟩
        refine at_then ?_
        refine run_cond (b := ((x0.fMember != 0) && (!t3311))) rfl (fun hb3317 => ?_) (fun hb3317 => ?_)
        · replace H := cond_t hb3317 H
          refine run_seq ?_
          refine run_region rfl ?_
          refine ox rfl rfl rfl rfl (ex_assign rfl rfl) ?_
          refine ops_nil (at_then ?_)
          refine run_ret ?_
          refine at_block_ret ?_
          refine at_then_ret ?_
          replace HM := (HM.front 0 rfl rfl).drop
          have hR := Option.some.inj H
          subst hR
          exact at_ret1 rfl rfl ⟨_, rfl, rfl, HM⟩
        · replace H := cond_f hb3317 H
          refine run_seq ?_
          obtain ⟨t3318, h3319, H⟩ := bind_some H
          obtain ⟨t3320, h3321, H⟩ := bind_some H
          refine run_meet (fun ρ_ w_ => ρ_ = [(1, .pointer (some ⟨b3289, 0, none⟩)), (33, .bool (t3318 || t3320))] ∧ Mem w [] w_ [box b3289 28 [.int .i64 x0.fKind, .int .i64 x0.fMember, p0_0, p0_1]]) ?_ ?_
          · skip
            refine run_region rfl ?_
            refine ox rfl rfl rfl rfl (ex_move rfl rfl) ?_
            refine ox rfl rfl rfl rfl (ex_fieldAddr (off' := 2) rfl rfl Tryz.underlying28 rfl tsz25 rfl) ?_
            refine ox rfl rfl rfl rfl (ex_load1 rfl rfl Tryz.underlying25 rfl ((HM.box_at 0 rfl) 2 _ rfl)) ?_
            refine ox rfl rfl rfl rfl (ex_len (d := kRef) (xs := x0.fIns) rfl rfl Tryz.underlying25 hp0_0) ?_
            refine od rfl rfl rfl rfl (does_callvk rfl callok26 rfl rfl rfl (impl_TxFault_1.calls (x0 := (x0.fIns.length : Int)) h3319)) ?_
            rintro _ w3322 ⟨rfl, hn⟩
            replace HM : Mem w [] w3322 [box b3289 28 [.int .i64 x0.fKind, .int .i64 x0.fMember, p0_0, p0_1]] := HM.call hn
            refine ox rfl rfl rfl rfl (ex_move rfl rfl) ?_
            refine bool_cases t3318 (fun hg3323 => ?_) (fun hg3323 => ?_)
            · skip
              refine ops_off rfl (guard_off rfl rfl rfl hg3323) rfl rfl ?_
              refine ops_off rfl (guard_off rfl rfl rfl hg3323) rfl rfl ?_
              refine ops_off rfl (guard_off rfl rfl rfl hg3323) rfl rfl ?_
              refine ops_off rfl (guard_off rfl rfl rfl hg3323) rfl rfl ?_
              refine ops_off rfl (guard_off rfl rfl rfl hg3323) rfl rfl ?_
              have hg3324 : (t3318 || t3320) = true := by simp only [hg3323, Bool.and_true, Bool.true_and, Bool.and_false, Bool.false_and, Bool.or_true, Bool.true_or, Bool.or_false, Bool.false_or, Bool.not_true, Bool.not_false, Bool.not_not]
              refine ops_ex (v := .bool (t3318 || t3320)) rfl (guard_none rfl) rfl rfl (ex_por_t rfl rfl hg3323) ?_
              refine ox rfl rfl rfl rfl (ex_assign rfl rfl) ?_
              refine ops_nil ?_
              exact at_meet [(1, .pointer (some ⟨b3289, 0, none⟩)), (33, .bool (t3318 || t3320))] ⟨rfl, HM⟩ (Sub.cons rfl (Sub.cons rfl Sub.nil))
            · skip
              refine ops_ex rfl (guard_on rfl rfl rfl hg3323) rfl rfl (ex_move rfl rfl) ?_
              refine ops_ex rfl (guard_on rfl rfl rfl hg3323) rfl rfl (ex_fieldAddr (off' := 3) rfl rfl Tryz.underlying28 rfl tsz26 rfl) ?_
              refine ops_ex rfl (guard_on rfl rfl rfl hg3323) rfl rfl (ex_load1 rfl rfl Tryz.underlying26 rfl ((HM.box_at 0 rfl) 3 _ rfl)) ?_
              refine ops_ex rfl (guard_on rfl rfl rfl hg3323) rfl rfl (ex_len (d := kOut) (xs := x0.fOuts) rfl rfl Tryz.underlying26 hp0_1) ?_
              refine ops_does rfl (guard_on rfl rfl rfl hg3323) rfl rfl (does_callvk rfl callok26 rfl rfl rfl (impl_TxFault_1.calls (x0 := (x0.fOuts.length : Int)) (cond_t (not_mk hg3323) h3321))) ?_
              rintro _ w3325 ⟨rfl, hn⟩
              replace HM : Mem w [] w3325 [box b3289 28 [.int .i64 x0.fKind, .int .i64 x0.fMember, p0_0, p0_1]] := HM.call hn
              refine ops_ex (v := .bool (t3318 || t3320)) rfl (guard_none rfl) rfl rfl (ex_por_f rfl rfl hg3323 rfl) ?_
              refine ox rfl rfl rfl rfl (ex_assign rfl rfl) ?_
              refine ops_nil ?_
              exact at_meet [(1, .pointer (some ⟨b3289, 0, none⟩)), (33, .bool (t3318 || t3320))] ⟨rfl, HM⟩ (Sub.cons rfl (Sub.cons rfl Sub.nil))
          · rintro _ w3326 ⟨rfl, HM⟩
            refine at_then ?_
            refine run_cond (b := (t3318 || t3320)) rfl (fun hb3327 => ?_) (fun hb3327 => ?_)
            · replace H := cond_t hb3327 H
              refine run_seq ?_
              refine run_region rfl ?_
              refine ox rfl rfl rfl rfl (ex_assign rfl rfl) ?_
              refine ops_nil (at_then ?_)
              refine run_ret ?_
              refine at_block_ret ?_
              refine at_then_ret ?_
              replace HM := (HM.front 0 rfl rfl).drop
              have hR := Option.some.inj H
              subst hR
              exact at_ret1 rfl rfl ⟨_, rfl, rfl, HM⟩
            · replace H := cond_f hb3327 H
              refine run_skip ?_
              refine at_block ?_
              refine at_then ?_
              obtain ⟨o3386, ho3387, H⟩ := bind_some H
              refine run_mid (fun ρ_ w_ => Sum.inr () = o3386 ∧ ρ_ = [(1, .pointer (some ⟨b3289, 0, none⟩))] ∧ Mem w [] w_ [box b3289 28 [.int .i64 x0.fKind, .int .i64 x0.fMember, p0_0, p0_1]]) ?_ ?_
              · skip
                refine run_seq ?_
                refine run_region rfl ?_
                refine ox rfl rfl rfl rfl (ex_fieldAddr (off' := 2) rfl rfl Tryz.underlying28 rfl tsz25 rfl) ?_
                refine ox rfl rfl rfl rfl (ex_load1 rfl rfl Tryz.underlying25 rfl ((HM.box_at 0 rfl) 2 _ rfl)) ?_
                refine ox rfl rfl rfl rfl (ex_len (d := kRef) (xs := x0.fIns) rfl rfl Tryz.underlying25 hp0_0) ?_
                refine ox rfl rfl rfl rfl (ex_move rfl rfl) ?_
                refine ops_nil (at_then ?_)
                refine run_block ?_
                refine run_loop (fun k_ ρ_ w_ => ∃ a3407 : Int, impl_TxFault.l0 x0 k_ a3407 = some o3386 ∧ ρ_ = [(1, .pointer (some ⟨b3289, 0, none⟩)), (47, p0_0), (48, .int .i64 (x0.fIns.length : Int)), (49, .int .i64 a3407)] ∧ Mem w [] w_ [box b3289 28 [.int .i64 x0.fKind, .int .i64 x0.fMember, p0_0, p0_1]]) k (ρ1 := [(1, .pointer (some ⟨b3289, 0, none⟩)), (47, p0_0), (48, .int .i64 (x0.fIns.length : Int)), (49, .int .i64 0)]) ⟨_, ho3387, rfl, HM⟩ (Sub.cons rfl (Sub.cons rfl (Sub.cons rfl (Sub.cons rfl Sub.nil)))) ?_
                clear HM ho3387
                rintro k3427 _ w3428 ⟨a3407, ho3387, rfl, HM⟩
                obtain _ | k3427 := k3427
                · exact nomatch ((impl_TxFault.l0_z x0 a3407).symm.trans ho3387)
                replace ho3387 := (impl_TxFault.l0_s x0 k3427 a3407).symm.trans ho3387
                refine run_seq ?_
                refine run_region rfl ?_
                refine ox rfl rfl rfl rfl (ex_lss rfl rfl rfl) ?_
                refine ops_nil (at_then (run_seq ?_))
                refine run_cond (b := (decide (a3407 < (x0.fIns.length : Int)))) rfl (fun hb3429 => ?_) (fun hb3429 => ?_)
                · replace ho3387 := cond_t hb3429 ho3387
                  refine run_skip ?_
                  refine at_then ?_
                  refine run_seq ?_
                  refine run_block ?_
                  refine run_seq ?_
                  obtain ⟨e3430, ho3387⟩ := chk_some ho3387
                  refine run_region rfl ?_
                  refine ox rfl rfl rfl rfl (ex_move rfl rfl) ?_
                  have hc3431 : CellsAt _ (sb p0_0) (so p0_0 + (a3407).toNat * 2) [(.int .i64 ((gt x0.fIns a3407).fTx)), (.int .i64 ((gt x0.fIns a3407).fAt))] := rd_plain hp0_0 e3430
                  refine ox rfl rfl rfl rfl (ex_indexAddr (d := kRef) rfl rfl rfl Tryz.underlying25 tsz62 hp0_0 (idx_lo e3430) (idx_hi e3430)) ?_
                  refine ox rfl rfl rfl rfl (ex_loadN (cs := [(.int .i64 ((gt x0.fIns a3407).fTx)), (.int .i64 ((gt x0.fIns a3407).fAt))]) rfl rfl Tryz.underlying62 rfl tsz62 rfl ((HM.at_ hc3431).sub 0 2 rfl)) ?_
                  refine od rfl rfl rfl rfl (does_alloc (cs := [.int .i64 0, .int .i64 0]) rfl tz62 rfl HM) ?_
                  rintro _ w3435 ⟨b3432, rfl, HM⟩
                  refine ox rfl rfl rfl rfl (ex_assign rfl rfl) ?_
                  refine odS rfl rfl rfl (does_store (vs := [.int .i64 ((gt x0.fIns a3407).fTx), .int .i64 ((gt x0.fIns a3407).fAt)]) (cs' := [.int .i64 ((gt x0.fIns a3407).fTx), .int .i64 ((gt x0.fIns a3407).fAt)]) rfl rfl rfl rfl tsz62 (Ones.int (Ones.int Ones.nil)) rfl rfl HM) ?_
                  rintro w3436 HM
                  refine ops_nil (at_then (run_seq ?_))
                  refine run_seq ?_
                  obtain ⟨t3440, h3441, ho3387⟩ := bind_some ho3387
                  refine run_region rfl ?_
                  refine ox rfl rfl rfl rfl (ex_loadN (cs := [(.int .i64 ((gt x0.fIns a3407).fTx)), (.int .i64 ((gt x0.fIns a3407).fAt))]) rfl rfl Tryz.underlying62 rfl tsz62 rfl ((HM.box_at 0 rfl).sub 0 2 rfl)) ?_
                  refine od rfl rfl rfl rfl (does_callk rfl callok29 rfl (impl_isRef.calls (x0 := (gt x0.fIns a3407)) h3441)) ?_
                  rintro _ w3442 ⟨rfl, hn⟩
                  replace HM : Mem w [] w3442 [box b3432 62 [.int .i64 ((gt x0.fIns a3407).fTx), .int .i64 ((gt x0.fIns a3407).fAt)], box b3289 28 [.int .i64 x0.fKind, .int .i64 x0.fMember, p0_0, p0_1]] := HM.call hn
                  refine ox rfl rfl rfl rfl (ex_not rfl rfl) ?_
                  refine ops_nil (at_then ?_)
                  refine run_cond (b := !t3440) rfl (fun hb3443 => ?_) (fun hb3443 => ?_)
                  · replace ho3387 := cond_t hb3443 ho3387
                    refine run_seq ?_
                    refine run_region rfl ?_
                    refine ox rfl rfl rfl rfl (ex_assign rfl rfl) ?_
                    refine ops_nil (at_then ?_)
                    refine run_ret ?_
                    refine at_then_ret ?_
                    refine at_block_ret ?_
                    refine at_then_ret ?_
                    refine at_then_ret ?_
                    refine at_block_ret ?_
                    refine at_then_ret ?_
                    replace HM := (HM.front 0 rfl rfl).drop
                    replace HM := (HM.front 0 rfl rfl).drop
                    have hR := Option.some.inj ho3387
                    subst hR
                    have hT := thn_inl H
                    have hR := Option.some.inj hT
                    subst hR
                    exact at_ret1 rfl rfl ⟨_, rfl, rfl, HM⟩
                  · replace ho3387 := cond_f hb3443 ho3387
                    refine run_skip ?_
                    refine at_then ?_
                    refine run_seq ?_
                    obtain ⟨e3444, ho3387⟩ := chk_some ho3387
                    obtain ⟨t3448, h3449, ho3387⟩ := bind_some ho3387
                    refine run_drawf (fun w_ => Mem w [] w_ [box b3432 62 [.int .i64 ((gt x0.fIns a3407).fTx), .int .i64 ((gt x0.fIns a3407).fAt)], box b3289 28 [.int .i64 x0.fKind, .int .i64 x0.fMember, p0_0, p0_1]]) [(0, true), (1, true), (2, true), (3, true), (4, true), (5, false)] mixed rfl rfl (by kernel_rfl) ?_
                    replace HM := HM.grow (fr_drew _)
                    have hS := Mem.suf (M := []) HM
                    refine dp rfl rfl rfl rfl (ex_fieldAddr (off' := 2) rfl rfl Tryz.underlying28 rfl tsz25 rfl) hS ?_
                    refine drwp_take rfl (guard_none rfl) rfl rfl (fun w_ hS_ => (ex_load1 rfl rfl Tryz.underlying25 rfl ((hS_.box_at 1 rfl) 2 _ rfl))) hS ?_
                    refine dp rfl rfl rfl rfl (ex_move rfl rfl) hS ?_
                    refine drwp_takeE rfl (guard_none rfl) rfl rfl (ex_cutH kRef rfl rfl rfl Tryz.underlying25 tsz62 hp0_0 e3444) hS ?_
                    rintro u3445 hr3447
                    refine drwp_take rfl (guard_none rfl) rfl rfl (fun w_ hS_ => (ex_loadN (cs := [(.int .i64 ((gt x0.fIns a3407).fTx)), (.int .i64 ((gt x0.fIns a3407).fAt))]) rfl rfl Tryz.underlying62 rfl tsz62 rfl ((hS_.box_at 0 rfl).sub 0 2 rfl))) hS ?_
                    refine drwp_one rfl (guard_none rfl) rfl rfl (does_callk rfl callok30 rfl (slices_Contains_impl_Ref.calls (x0 := x0.fIns.take (a3407).toNat) (x1 := (gt x0.fIns a3407)) (HM.rd hr3447) h3449)) ?_
                    rintro _ w3450 ⟨rfl, hn⟩
                    replace HM : Mem w [] w3450 [box b3432 62 [.int .i64 ((gt x0.fIns a3407).fTx), .int .i64 ((gt x0.fIns a3407).fAt)], box b3289 28 [.int .i64 x0.fKind, .int .i64 x0.fMember, p0_0, p0_1]] := HM.call hn
                    have hS := Mem.suf (M := []) HM
                    refine ⟨hS, ?_⟩
                    refine drwp_done ?_
                    refine at_then ?_
                    refine run_cond (b := t3448) rfl (fun hb3451 => ?_) (fun hb3451 => ?_)
                    · replace ho3387 := cond_t hb3451 ho3387
                      refine run_seq ?_
                      refine run_region rfl ?_
                      refine ox rfl rfl rfl rfl (ex_assign rfl rfl) ?_
                      refine ops_nil (at_then ?_)
                      refine run_ret ?_
                      refine at_block_ret ?_
                      refine at_then_ret ?_
                      refine at_then_ret ?_
                      refine at_block_ret ?_
                      refine at_then_ret ?_
                      replace HM := (HM.front 0 rfl rfl).drop
                      replace HM := (HM.front 0 rfl rfl).drop
                      have hR := Option.some.inj ho3387
                      subst hR
                      have hT := thn_inl H
                      have hR := Option.some.inj hT
                      subst hR
                      exact at_ret1 rfl rfl ⟨_, rfl, rfl, HM⟩
                    · replace ho3387 := cond_f hb3451 ho3387
                      refine run_skip ?_
                      refine at_block ?_
                      refine at_then ?_
                      refine run_region rfl ?_
                      refine ox rfl rfl rfl rfl (ex_add rfl rfl rfl) ?_
                      refine ox rfl rfl rfl rfl (ex_move rfl rfl) ?_
                      refine ops_nil ?_
                      replace HM := (HM.front 0 rfl rfl).drop
                      exact at_again k3427 (ρ1 := [(1, .pointer (some ⟨b3289, 0, none⟩)), (47, p0_0), (48, .int .i64 (x0.fIns.length : Int)), (49, .int .i64 (wrap64 (a3407 + 1)))]) (Nat.lt_succ_self _) ⟨_, ho3387, rfl, HM⟩ (Sub.cons rfl (Sub.cons rfl (Sub.cons rfl (Sub.cons rfl Sub.nil))))
                · replace ho3387 := cond_f hb3429 ho3387
                  refine run_exit ?_
                  refine at_then_exit ?_
                  refine at_then_exit ?_
                  refine at_block_exit ?_
                  exact at_mid (ρ' := [(1, .pointer (some ⟨b3289, 0, none⟩))]) ⟨(Option.some.inj ho3387), rfl, HM⟩ (Sub.cons rfl Sub.nil)
              · rintro _ w3452 ⟨rfl, rfl, HM⟩
                replace H := (thn_inr H)
                obtain ⟨o3487, ho3488, H⟩ := bind_some H
                refine run_mid (fun ρ_ w_ => Sum.inr () = o3487 ∧ ρ_ = [(1, .pointer (some ⟨b3289, 0, none⟩))] ∧ Mem w [] w_ [box b3289 28 [.int .i64 x0.fKind, .int .i64 x0.fMember, p0_0, p0_1]]) ?_ ?_
                · skip
                  refine run_seq ?_
                  refine run_region rfl ?_
                  refine ox rfl rfl rfl rfl (ex_fieldAddr (off' := 3) rfl rfl Tryz.underlying28 rfl tsz26 rfl) ?_
                  refine ox rfl rfl rfl rfl (ex_load1 rfl rfl Tryz.underlying26 rfl ((HM.box_at 0 rfl) 3 _ rfl)) ?_
                  refine ox rfl rfl rfl rfl (ex_len (d := kOut) (xs := x0.fOuts) rfl rfl Tryz.underlying26 hp0_1) ?_
                  refine ox rfl rfl rfl rfl (ex_move rfl rfl) ?_
                  refine ops_nil (at_then ?_)
                  refine run_block ?_
                  refine run_loop (fun k_ ρ_ w_ => ∃ a3500 : Int, impl_TxFault.l1 x0 k_ a3500 = some o3487 ∧ ρ_ = [(1, .pointer (some ⟨b3289, 0, none⟩)), (65, p0_1), (66, .int .i64 (x0.fOuts.length : Int)), (67, .int .i64 a3500)] ∧ Mem w [] w_ [box b3289 28 [.int .i64 x0.fKind, .int .i64 x0.fMember, p0_0, p0_1]]) k (ρ1 := [(1, .pointer (some ⟨b3289, 0, none⟩)), (65, p0_1), (66, .int .i64 (x0.fOuts.length : Int)), (67, .int .i64 0)]) ⟨_, ho3488, rfl, HM⟩ (Sub.cons rfl (Sub.cons rfl (Sub.cons rfl (Sub.cons rfl Sub.nil)))) ?_
                  clear HM ho3488
                  rintro k3512 _ w3513 ⟨a3500, ho3488, rfl, HM⟩
                  obtain _ | k3512 := k3512
                  · exact nomatch ((impl_TxFault.l1_z x0 a3500).symm.trans ho3488)
                  replace ho3488 := (impl_TxFault.l1_s x0 k3512 a3500).symm.trans ho3488
                  refine run_seq ?_
                  refine run_region rfl ?_
                  refine ox rfl rfl rfl rfl (ex_lss rfl rfl rfl) ?_
                  refine ops_nil (at_then (run_seq ?_))
                  refine run_cond (b := (decide (a3500 < (x0.fOuts.length : Int)))) rfl (fun hb3514 => ?_) (fun hb3514 => ?_)
                  · replace ho3488 := cond_t hb3514 ho3488
                    refine run_skip ?_
                    refine at_then ?_
                    refine run_seq ?_
                    refine run_block ?_
                    refine run_seq ?_
                    obtain ⟨e3515, ho3488⟩ := chk_some ho3488
                    refine run_region rfl ?_
                    obtain ⟨kv3517, hc3516, hk3518⟩ : ∃ u, CellsAt _ (sb p0_1) (so p0_1 + (a3500).toNat * 4) [(.int .i64 ((gt x0.fOuts a3500).fValue)), u, (.int .i64 ((gt x0.fOuts a3500).fRule.fNeed)), (.int .i64 ((gt x0.fOuts a3500).fRule.fAfter))] ∧ RdS kInt _ u ((gt x0.fOuts a3500).fRule.fKeys) := rd_with1 hp0_1 e3515
                    refine ox rfl rfl rfl rfl (ex_indexAddr (d := kOut) rfl rfl rfl Tryz.underlying26 tsz44 hp0_1 (idx_lo e3515) (idx_hi e3515)) ?_
                    refine ox rfl rfl rfl rfl (ex_loadN (cs := [(.int .i64 ((gt x0.fOuts a3500).fValue)), kv3517, (.int .i64 ((gt x0.fOuts a3500).fRule.fNeed)), (.int .i64 ((gt x0.fOuts a3500).fRule.fAfter))]) rfl rfl Tryz.underlying44 rfl tsz44 rfl ((HM.at_ hc3516).sub 0 4 rfl)) ?_
                    refine od rfl rfl rfl rfl (does_alloc (cs := [.int .i64 0, .slice none 0 0, .int .i64 0, .int .i64 0]) rfl tz44 rfl HM) ?_
                    rintro _ w3522 ⟨b3519, rfl, HM⟩
                    refine odS rfl rfl rfl (does_store (vs := [.int .i64 ((gt x0.fOuts a3500).fValue), kv3517, .int .i64 ((gt x0.fOuts a3500).fRule.fNeed), .int .i64 ((gt x0.fOuts a3500).fRule.fAfter)]) (cs' := [.int .i64 ((gt x0.fOuts a3500).fValue), kv3517, .int .i64 ((gt x0.fOuts a3500).fRule.fNeed), .int .i64 ((gt x0.fOuts a3500).fRule.fAfter)]) rfl rfl rfl rfl tsz44 (Ones.int (Ones.rd hk3518 (Ones.int (Ones.int Ones.nil)))) rfl rfl HM) ?_
                    rintro w3523 HM
                    refine ops_nil (at_then (run_seq ?_))
                    obtain ⟨t3524, h3525, ho3488⟩ := bind_some ho3488
                    refine run_region rfl ?_
                    refine ox rfl rfl rfl rfl (ex_loadN (cs := [(.int .i64 ((gt x0.fOuts a3500).fValue)), kv3517, (.int .i64 ((gt x0.fOuts a3500).fRule.fNeed)), (.int .i64 ((gt x0.fOuts a3500).fRule.fAfter))]) rfl rfl Tryz.underlying44 rfl tsz44 rfl ((HM.box_at 0 rfl).sub 0 4 rfl)) ?_
                    refine od rfl rfl rfl rfl (does_callk rfl callok31 rfl (impl_outFault.calls (x0 := (gt x0.fOuts a3500)) (HM.rd hk3518) h3525)) ?_
                    rintro _ w3526 ⟨rfl, hn⟩
                    replace HM : Mem w [] w3526 [box b3519 44 [.int .i64 ((gt x0.fOuts a3500).fValue), kv3517, .int .i64 ((gt x0.fOuts a3500).fRule.fNeed), .int .i64 ((gt x0.fOuts a3500).fRule.fAfter)], box b3289 28 [.int .i64 x0.fKind, .int .i64 x0.fMember, p0_0, p0_1]] := HM.call hn
                    refine ox rfl rfl rfl rfl (ex_assign rfl rfl) ?_
                    refine ops_nil (at_then (run_seq ?_))
                    refine run_region rfl ?_
                    refine ox rfl rfl rfl rfl (ex_move rfl rfl) ?_
                    refine ox rfl rfl rfl rfl (ex_neq rfl rfl rfl) ?_
                    refine ops_nil (at_then ?_)
                    refine run_cond (b := (t3524 != 0)) rfl (fun hb3527 => ?_) (fun hb3527 => ?_)
                    · replace ho3488 := cond_t hb3527 ho3488
                      refine run_seq ?_
                      refine run_region rfl ?_
                      refine ox rfl rfl rfl rfl (ex_move rfl rfl) ?_
                      refine ox rfl rfl rfl rfl (ex_assign rfl rfl) ?_
                      refine ops_nil (at_then ?_)
                      refine run_ret ?_
                      refine at_block_ret ?_
                      refine at_then_ret ?_
                      refine at_then_ret ?_
                      refine at_block_ret ?_
                      refine at_then_ret ?_
                      replace HM := (HM.front 0 rfl rfl).drop
                      replace HM := (HM.front 0 rfl rfl).drop
                      have hR := Option.some.inj ho3488
                      subst hR
                      have hT := thn_inl H
                      have hR := Option.some.inj hT
                      subst hR
                      exact at_ret1 rfl rfl ⟨_, rfl, rfl, HM⟩
                    · replace ho3488 := cond_f hb3527 ho3488
                      refine run_skip ?_
                      refine at_block ?_
                      refine at_then ?_
                      refine run_region rfl ?_
                      refine ox rfl rfl rfl rfl (ex_add rfl rfl rfl) ?_
                      refine ox rfl rfl rfl rfl (ex_move rfl rfl) ?_
                      refine ops_nil ?_
                      replace HM := (HM.front 0 rfl rfl).drop
                      exact at_again k3512 (ρ1 := [(1, .pointer (some ⟨b3289, 0, none⟩)), (65, p0_1), (66, .int .i64 (x0.fOuts.length : Int)), (67, .int .i64 (wrap64 (a3500 + 1)))]) (Nat.lt_succ_self _) ⟨_, ho3488, rfl, HM⟩ (Sub.cons rfl (Sub.cons rfl (Sub.cons rfl (Sub.cons rfl Sub.nil))))
                  · replace ho3488 := cond_f hb3514 ho3488
                    refine run_exit ?_
                    refine at_then_exit ?_
                    refine at_then_exit ?_
                    refine at_block_exit ?_
                    exact at_mid (ρ' := [(1, .pointer (some ⟨b3289, 0, none⟩))]) ⟨(Option.some.inj ho3488), rfl, HM⟩ (Sub.cons rfl Sub.nil)
                · rintro _ w3528 ⟨rfl, rfl, HM⟩
                  replace H := (thn_inr H)
                  refine run_seq ?_
                  refine run_seq ?_
                  obtain ⟨e3529, H⟩ := chk_some H
                  refine run_meet (fun ρ_ w_ => ρ_ = [(87, .bool ((x0.fKind == 1) && (decide (((gt x0.fOuts (0 : Int)).fValue) < 100))))] ∧ Mem w [] w_ []) ?_ ?_
                  · skip
                    refine run_region rfl ?_
                    refine ox rfl rfl rfl rfl (ex_fieldAddr (off' := 0) rfl rfl Tryz.underlying28 rfl tsz2 rfl) ?_
                    refine ox rfl rfl rfl rfl (ex_load1 rfl rfl Tryz.underlying2 rfl ((HM.box_at 0 rfl) 0 _ rfl)) ?_
                    refine ox rfl rfl rfl rfl (ex_eql rfl rfl rfl) ?_
                    refine ox rfl rfl rfl rfl (ex_move rfl rfl) ?_
                    refine bool_cases (x0.fKind == 1) (fun hg3533 => ?_) (fun hg3533 => ?_)
                    · skip
                      refine ops_ex rfl (guard_on rfl rfl rfl hg3533) rfl rfl (ex_fieldAddr (off' := 3) rfl rfl Tryz.underlying28 rfl tsz26 rfl) ?_
                      refine ops_ex rfl (guard_on rfl rfl rfl hg3533) rfl rfl (ex_load1 rfl rfl Tryz.underlying26 rfl ((HM.box_at 0 rfl) 3 _ rfl)) ?_
                      obtain ⟨kv3531, hc3530, hk3532⟩ : ∃ u, CellsAt _ (sb p0_1) (so p0_1 + ((0 : Int)).toNat * 4) [(.int .i64 ((gt x0.fOuts (0 : Int)).fValue)), u, (.int .i64 ((gt x0.fOuts (0 : Int)).fRule.fNeed)), (.int .i64 ((gt x0.fOuts (0 : Int)).fRule.fAfter))] ∧ RdS kInt _ u ((gt x0.fOuts (0 : Int)).fRule.fKeys) := rd_with1 hp0_1 (or_t e3529 hg3533)
                      refine ops_ex rfl (guard_on rfl rfl rfl hg3533) rfl rfl (ex_indexAddr (d := kOut) rfl rfl rfl Tryz.underlying26 tsz44 hp0_1 (idx_lo (or_t e3529 hg3533)) (idx_hi (or_t e3529 hg3533))) ?_
                      refine ops_ex rfl (guard_on rfl rfl rfl hg3533) rfl rfl (ex_fieldAddr (off' := so p0_1 + ((0 : Int)).toNat * 4) rfl rfl Tryz.underlying44 rfl tsz2 rfl) ?_
                      refine ops_ex rfl (guard_on rfl rfl rfl hg3533) rfl rfl (ex_load1 rfl rfl Tryz.underlying2 rfl ((HM.at_ hc3530) 0 _ rfl)) ?_
                      refine ops_ex rfl (guard_on rfl rfl rfl hg3533) rfl rfl (ex_lss rfl rfl rfl) ?_
                      refine ops_ex (v := .bool ((x0.fKind == 1) && (decide (((gt x0.fOuts (0 : Int)).fValue) < 100)))) rfl (guard_none rfl) rfl rfl (ex_pand_t rfl rfl hg3533 rfl) ?_
                      refine ops_nil ?_
                      replace HM := (HM.front 0 rfl rfl).drop
                      exact at_meet [(87, .bool ((x0.fKind == 1) && (decide (((gt x0.fOuts (0 : Int)).fValue) < 100))))] ⟨rfl, HM⟩ (Sub.cons rfl Sub.nil)
                    · skip
                      refine ops_off rfl (guard_off rfl rfl rfl hg3533) rfl rfl ?_
                      refine ops_off rfl (guard_off rfl rfl rfl hg3533) rfl rfl ?_
                      refine ops_off rfl (guard_off rfl rfl rfl hg3533) rfl rfl ?_
                      refine ops_off rfl (guard_off rfl rfl rfl hg3533) rfl rfl ?_
                      refine ops_off rfl (guard_off rfl rfl rfl hg3533) rfl rfl ?_
                      refine ops_off rfl (guard_off rfl rfl rfl hg3533) rfl rfl ?_
                      have hg3534 : ((x0.fKind == 1) && (decide (((gt x0.fOuts (0 : Int)).fValue) < 100))) = false := by simp only [hg3533, Bool.and_true, Bool.true_and, Bool.and_false, Bool.false_and, Bool.or_true, Bool.true_or, Bool.or_false, Bool.false_or, Bool.not_true, Bool.not_false, Bool.not_not]
                      refine ops_ex (v := .bool ((x0.fKind == 1) && (decide (((gt x0.fOuts (0 : Int)).fValue) < 100)))) rfl (guard_none rfl) rfl rfl (ex_pand_f rfl rfl hg3533) ?_
                      refine ops_nil ?_
                      replace HM := (HM.front 0 rfl rfl).drop
                      exact at_meet [(87, .bool ((x0.fKind == 1) && (decide (((gt x0.fOuts (0 : Int)).fValue) < 100))))] ⟨rfl, HM⟩ (Sub.cons rfl Sub.nil)
                  · rintro _ w3535 ⟨rfl, HM⟩
                    refine at_then ?_
                    refine run_cond (b := ((x0.fKind == 1) && (decide (((gt x0.fOuts (0 : Int)).fValue) < 100)))) rfl (fun hb3536 => ?_) (fun hb3536 => ?_)
                    · replace H := cond_t hb3536 H
                      refine run_seq ?_
                      refine run_region rfl ?_
                      refine ox rfl rfl rfl rfl (ex_assign rfl rfl) ?_
                      refine ops_nil (at_then ?_)
                      refine run_ret ?_
                      refine at_then_ret ?_
                      have hR := Option.some.inj H
                      subst hR
                      exact at_ret1 rfl rfl ⟨_, rfl, rfl, HM⟩
                    · replace H := cond_f hb3536 H
                      refine run_skip ?_
                      refine at_then ?_
                      refine run_seq ?_
                      refine run_region rfl ?_
                      refine ox rfl rfl rfl rfl (ex_assign rfl rfl) ?_
                      refine ops_nil (at_then ?_)
                      refine run_ret ?_
                      have hR := Option.some.inj H
                      subst hR
                      exact at_ret1 rfl rfl ⟨_, rfl, rfl, HM⟩
end Go.Proofs.YtmaolhocmkkmjaaGreatDoor.Zk
