/- What functions of the program compute, each as a plain function, and that they do. Conditions: as each theorem states them. -/
import Derived.Test.YtcpacdbdehphkaaDoorTxTextZkF2
namespace Go.Proofs.YtcpacdbdehphkaaDoor.Zk
open Go Go.RowKit Go.IntWalk Go.Proofs
set_option linter.unusedVariables false
set_option linter.unusedSimpArgs false
set_option maxRecDepth 100000
set_option maxHeartbeats 4000000
def spec_TxText.f (k : Nat) (x0 : Tx) : Option TextResult := ((spec_l3Fault.f k x0).bind fun t1966 => (bif (t1966 != 0) then some (⟨t1966, (⟨#[]⟩ : ByteArray)⟩ : TextResult) else ((spec_l3Text.f k x0).bind fun t1971 => (bif (decide (300 < (t1971.size : Int))) then some (⟨2, (⟨#[]⟩ : ByteArray)⟩ : TextResult) else some (⟨0, t1971⟩ : TextResult)))))
theorem spec_TxText.calls {k : Nat} {x0 : Tx} {p0_0 : Value} {p0_1 : Value} {w : World} (hp0_0 : RdS kRef w p0_0 x0.fIns) (hp0_1 : RdS kOut w p0_1 x0.fOuts) {r : TextResult} (H : spec_TxText.f k x0 = some r) :
    Calls Tryd.prog 7 ([.agg #[(.int .i64 x0.fKind), (.int .i64 x0.fMember), p0_0, p0_1]] : List Value).toArray w (fun e w_ => ∃ v, e = .returned v ∧ v = (.agg #[.int .i64 r.fCode, .string r.fText]) ∧ Mem w [] w_ []) := by
  have HM := Mem.start w
  refine calls_run (N := 17) Tryd.func7 rfl rfl rfl rfl ?_
  unfold spec_TxText.f at H
  refine run_seq ?_
  refine run_region rfl ?_
  refine ops_does rfl (guard_none rfl) rfl rfl (does_box (cs := [.int .i64 x0.fKind, .int .i64 x0.fMember, p0_0, p0_1]) rfl rfl rfl HM) ?_
  rintro _ w1961 ⟨b1955, rfl, HM⟩
  refine ops_does rfl (guard_none rfl) rfl rfl (does_alloc (cs := [.int .i64 0, .string (⟨#[]⟩ : ByteArray)]) rfl tz28 rfl HM) ?_
  rintro _ w1962 ⟨b1958, rfl, HM⟩
  refine ops_nil ?_
  refine at_then ?_
  refine run_seq ?_
  refine run_seq ?_
  obtain ⟨t1966, h1967, H⟩ := bind_some H
  refine run_region rfl ?_
  refine ops_does rfl (guard_none rfl) rfl rfl (does_callk rfl callok31 rfl (spec_l3Fault.calls (x0 := x0) (HM.box_at 1 rfl) (HM.rd hp0_0) (HM.rd hp0_1) h1967)) ?_
  rintro _ w1968 ⟨rfl, hn⟩
  replace HM : Mem w [] w1968 [box b1958 28 [.int .i64 0, .string (⟨#[]⟩ : ByteArray)], box b1955 33 [.int .i64 x0.fKind, .int .i64 x0.fMember, p0_0, p0_1]] := HM.call hn
  refine ops_ex rfl (guard_none rfl) rfl rfl (ex_assign rfl rfl) ?_
  refine ops_nil ?_
  refine at_then ?_
  refine run_seq ?_
  refine run_region rfl ?_
  refine ops_ex rfl (guard_none rfl) rfl rfl (ex_move rfl rfl) ?_
  refine ops_ex rfl (guard_none rfl) rfl rfl (ex_neq rfl rfl rfl) ?_
  refine ops_nil ?_
  refine at_then ?_
  refine run_cond (b := (t1966 != 0)) rfl (fun hb1969 => ?_) (fun hb1969 => ?_)
  · replace H := cond_t hb1969 H
    refine run_seq ?_
    refine run_region rfl ?_
    refine ops_ex rfl (guard_none rfl) rfl rfl (ex_move rfl rfl) ?_
    refine ops_ex rfl (guard_none rfl) rfl rfl (ex_build (cells := #[(.int .i64 t1966), (.string (⟨#[]⟩ : ByteArray))]) rfl rfl (by kernel_rfl)) ?_
    refine ops_doesS rfl (guard_none rfl) rfl (does_store (vs := [.int .i64 t1966, .string (⟨#[]⟩ : ByteArray)]) (cs' := [.int .i64 t1966, .string (⟨#[]⟩ : ByteArray)]) rfl rfl rfl rfl tsz28 (Ones.int (Ones.str Ones.nil)) rfl rfl HM) ?_
    rintro w1970 HM
    refine ops_nil ?_
    refine at_then ?_
    refine run_ret ?_
    refine at_then_ret ?_
    replace HM := (HM.front 1 rfl rfl).drop
    have hcb0 := HM.box_at 0 rfl
    replace HM := (HM.front 0 rfl rfl).drop
    have hR := Option.some.inj H
    subst hR
    exact at_retN rfl rfl Tryd.underlying28 rfl tsz28 rfl hcb0 ⟨_, rfl, rfl, HM⟩
  · replace H := cond_f hb1969 H
    refine run_skip ?_
    refine at_then ?_
    refine run_seq ?_
    obtain ⟨t1971, h1972, H⟩ := bind_some H
    refine run_region rfl ?_
    refine ops_does rfl (guard_none rfl) rfl rfl (does_callk rfl callok32 rfl (spec_l3Text.calls (x0 := x0) (HM.box_at 1 rfl) (HM.rd hp0_0) (HM.rd hp0_1) h1972)) ?_
    rintro _ w1973 ⟨rfl, hn⟩
    replace HM : Mem w [] w1973 [box b1958 28 [.int .i64 0, .string (⟨#[]⟩ : ByteArray)], box b1955 33 [.int .i64 x0.fKind, .int .i64 x0.fMember, p0_0, p0_1]] := HM.call hn
    refine ops_ex rfl (guard_none rfl) rfl rfl (ex_assign rfl rfl) ?_
    refine ops_nil ?_
    refine at_then ?_
    refine run_seq ?_
    refine run_seq ?_
    refine run_region rfl ?_
    refine ops_ex rfl (guard_none rfl) rfl rfl (ex_move rfl rfl) ?_
    refine ops_ex rfl (guard_none rfl) rfl rfl (ex_strlen rfl rfl Tryd.underlying9) ?_
    refine ops_ex rfl (guard_none rfl) rfl rfl (ex_gtr rfl rfl rfl) ?_
    refine ops_nil ?_
    refine at_then ?_
    refine run_cond (b := (decide (300 < (t1971.size : Int)))) rfl (fun hb1974 => ?_) (fun hb1974 => ?_)
    · replace H := cond_t hb1974 H
      refine run_seq ?_
      refine run_region rfl ?_
      refine ops_ex rfl (guard_none rfl) rfl rfl (ex_build (cells := #[(.int .i64 2), (.string (⟨#[]⟩ : ByteArray))]) rfl rfl (by kernel_rfl)) ?_
      refine ops_doesS rfl (guard_none rfl) rfl (does_store (vs := [.int .i64 2, .string (⟨#[]⟩ : ByteArray)]) (cs' := [.int .i64 2, .string (⟨#[]⟩ : ByteArray)]) rfl rfl rfl rfl tsz28 (Ones.int (Ones.str Ones.nil)) rfl rfl HM) ?_
      rintro w1975 HM
      refine ops_nil ?_
      refine at_then ?_
      refine run_ret ?_
      refine at_then_ret ?_
      replace HM := (HM.front 1 rfl rfl).drop
      have hcb0 := HM.box_at 0 rfl
      replace HM := (HM.front 0 rfl rfl).drop
      have hR := Option.some.inj H
      subst hR
      exact at_retN rfl rfl Tryd.underlying28 rfl tsz28 rfl hcb0 ⟨_, rfl, rfl, HM⟩
    · replace H := cond_f hb1974 H
      refine run_skip ?_
      refine at_then ?_
      refine run_seq ?_
      refine run_region rfl ?_
      refine ops_ex rfl (guard_none rfl) rfl rfl (ex_move rfl rfl) ?_
      refine ops_ex rfl (guard_none rfl) rfl rfl (ex_build (cells := #[(.int .i64 0), (.string t1971)]) rfl rfl (by kernel_rfl)) ?_
      refine ops_doesS rfl (guard_none rfl) rfl (does_store (vs := [.int .i64 0, .string t1971]) (cs' := [.int .i64 0, .string t1971]) rfl rfl rfl rfl tsz28 (Ones.int (Ones.str Ones.nil)) rfl rfl HM) ?_
      rintro w1976 HM
      refine ops_nil ?_
      refine at_then ?_
      refine run_ret ?_
      replace HM := (HM.front 1 rfl rfl).drop
      have hcb0 := HM.box_at 0 rfl
      replace HM := (HM.front 0 rfl rfl).drop
      have hR := Option.some.inj H
      subst hR
      exact at_retN rfl rfl Tryd.underlying28 rfl tsz28 rfl hcb0 ⟨_, rfl, rfl, HM⟩

def impl_within.f (k : Nat) (x0 : Int) (x1 : Int) (x2 : Int) : Option Bool := some ((decide (x1 ≤ x0)) && (decide (x0 ≤ x2)))
theorem impl_within.calls {k : Nat} {x0 : Int} {x1 : Int} {x2 : Int}  {w : World}  {r : Bool} (H : impl_within.f k x0 x1 x2 = some r) :
    Calls Tryd.prog 54 ([.int .i64 x0, .int .i64 x1, .int .i64 x2] : List Value).toArray w (fun e w_ => ∃ v, e = .returned v ∧ v = (.bool r) ∧ Mem w [] w_ []) := by
  have HM := Mem.start w
  refine calls_run (N := 15) Tryd.func54 rfl rfl rfl rfl ?_
  unfold impl_within.f at H
  refine run_seq ?_
  refine run_region rfl ?_
  refine ops_ex rfl (guard_none rfl) rfl rfl (ex_assign rfl rfl) ?_
  refine ops_nil ?_
  refine at_then ?_
  refine run_seq ?_
  refine run_meet (fun ρ_ w_ => ρ_ = [(6, .bool ((decide (x1 ≤ x0)) && (decide (x0 ≤ x2))))] ∧ Mem w [] w_ []) ?_ ?_
  · skip
    refine run_region rfl ?_
    refine ops_ex rfl (guard_none rfl) rfl rfl (ex_move rfl rfl) ?_
    refine ops_ex rfl (guard_none rfl) rfl rfl (ex_move rfl rfl) ?_
    refine ops_ex rfl (guard_none rfl) rfl rfl (ex_geq rfl rfl rfl) ?_
    refine ops_ex rfl (guard_none rfl) rfl rfl (ex_move rfl rfl) ?_
    refine bool_cases (decide (x1 ≤ x0)) (fun hg2000 => ?_) (fun hg2000 => ?_)
    · skip
      refine ops_ex rfl (guard_on rfl rfl rfl hg2000) rfl rfl (ex_move rfl rfl) ?_
      refine ops_ex rfl (guard_on rfl rfl rfl hg2000) rfl rfl (ex_move rfl rfl) ?_
      refine ops_ex rfl (guard_on rfl rfl rfl hg2000) rfl rfl (ex_leq rfl rfl rfl) ?_
      refine ops_ex (v := .bool ((decide (x1 ≤ x0)) && (decide (x0 ≤ x2)))) rfl (guard_none rfl) rfl rfl (ex_pand_t rfl rfl hg2000 rfl) ?_
      refine ops_ex rfl (guard_none rfl) rfl rfl (ex_assign rfl rfl) ?_
      refine ops_nil ?_
      exact at_meet [(6, .bool ((decide (x1 ≤ x0)) && (decide (x0 ≤ x2))))] ⟨rfl, HM⟩ (Sub.cons rfl Sub.nil)
    · skip
      refine ops_off rfl (guard_off rfl rfl rfl hg2000) rfl rfl ?_
      refine ops_off rfl (guard_off rfl rfl rfl hg2000) rfl rfl ?_
      refine ops_off rfl (guard_off rfl rfl rfl hg2000) rfl rfl ?_
      have hg2001 : ((decide (x1 ≤ x0)) && (decide (x0 ≤ x2))) = false := by simp only [hg2000, Bool.and_true, Bool.true_and, Bool.and_false, Bool.false_and, Bool.or_true, Bool.true_or, Bool.or_false, Bool.false_or, Bool.not_true, Bool.not_false, Bool.not_not]
      refine ops_ex (v := .bool ((decide (x1 ≤ x0)) && (decide (x0 ≤ x2)))) rfl (guard_none rfl) rfl rfl (ex_pand_f rfl rfl hg2000) ?_
      refine ops_ex rfl (guard_none rfl) rfl rfl (ex_assign rfl rfl) ?_
      refine ops_nil ?_
      exact at_meet [(6, .bool ((decide (x1 ≤ x0)) && (decide (x0 ≤ x2))))] ⟨rfl, HM⟩ (Sub.cons rfl Sub.nil)
  · rintro _ w2002 ⟨rfl, HM⟩
    refine at_then ?_
    refine run_ret ?_
    have hR := Option.some.inj H
    subst hR
    exact at_ret1 rfl rfl ⟨_, rfl, rfl, HM⟩

def impl_isKey.f (k : Nat) (x0 : Int) : Option Bool := ((impl_within.f k x0 1 999).bind fun t2008 => some t2008)
theorem impl_isKey.calls {k : Nat} {x0 : Int}  {w : World}  {r : Bool} (H : impl_isKey.f k x0 = some r) :
    Calls Tryd.prog 55 ([.int .i64 x0] : List Value).toArray w (fun e w_ => ∃ v, e = .returned v ∧ v = (.bool r) ∧ Mem w [] w_ []) := by
  have HM := Mem.start w
  refine calls_run (N := 5) Tryd.func55 rfl rfl rfl rfl ?_
  unfold impl_isKey.f at H
  refine run_seq ?_
  refine run_region rfl ?_
  refine ops_ex rfl (guard_none rfl) rfl rfl (ex_assign rfl rfl) ?_
  refine ops_nil ?_
  refine at_then ?_
  refine run_seq ?_
  obtain ⟨t2008, h2009, H⟩ := bind_some H
  refine run_region rfl ?_
  refine ops_ex rfl (guard_none rfl) rfl rfl (ex_move rfl rfl) ?_
  refine ops_does rfl (guard_none rfl) rfl rfl (does_callk rfl callok54 rfl (impl_within.calls (x0 := x0) (x1 := 1) (x2 := 999) h2009)) ?_
  rintro _ w2010 ⟨rfl, hn⟩
  replace HM : Mem w [] w2010 [] := HM.call hn
  refine ops_ex rfl (guard_none rfl) rfl rfl (ex_assign rfl rfl) ?_
  refine ops_nil ?_
  refine at_then ?_
  refine run_ret ?_
  have hR := Option.some.inj H
  subst hR
  exact at_ret1 rfl rfl ⟨_, rfl, rfl, HM⟩

def impl_TxFault_1.f (k : Nat) (x0 : Int) : Option Bool := some ((decide (x0 < 1)) || (decide (4 < x0)))
theorem impl_TxFault_1.calls {k : Nat} {x0 : Int}  {w : World}  {r : Bool} (H : impl_TxFault_1.f k x0 = some r) :
    Calls Tryd.prog 71 ([.int .i64 x0] : List Value).toArray w (fun e w_ => ∃ v, e = .returned v ∧ v = (.bool r) ∧ Mem w [] w_ []) := by
  have HM := Mem.start w
  refine calls_run (N := 9) Tryd.func71 rfl rfl rfl rfl ?_
  unfold impl_TxFault_1.f at H
  refine run_seq ?_
  refine run_region rfl ?_
  refine ops_ex rfl (guard_none rfl) rfl rfl (ex_assign rfl rfl) ?_
  refine ops_nil ?_
  refine at_then ?_
  refine run_seq ?_
  refine run_meet (fun ρ_ w_ => ρ_ = [(2, .bool ((decide (x0 < 1)) || (decide (4 < x0))))] ∧ Mem w [] w_ []) ?_ ?_
  · skip
    refine run_region rfl ?_
    refine ops_ex rfl (guard_none rfl) rfl rfl (ex_move rfl rfl) ?_
    refine ops_ex rfl (guard_none rfl) rfl rfl (ex_lss rfl rfl rfl) ?_
    refine ops_ex rfl (guard_none rfl) rfl rfl (ex_move rfl rfl) ?_
    refine bool_cases (decide (x0 < 1)) (fun hg2014 => ?_) (fun hg2014 => ?_)
    · skip
      refine ops_off rfl (guard_off rfl rfl rfl hg2014) rfl rfl ?_
      refine ops_off rfl (guard_off rfl rfl rfl hg2014) rfl rfl ?_
      have hg2015 : ((decide (x0 < 1)) || (decide (4 < x0))) = true := by simp only [hg2014, Bool.and_true, Bool.true_and, Bool.and_false, Bool.false_and, Bool.or_true, Bool.true_or, Bool.or_false, Bool.false_or, Bool.not_true, Bool.not_false, Bool.not_not]
      refine ops_ex (v := .bool ((decide (x0 < 1)) || (decide (4 < x0)))) rfl (guard_none rfl) rfl rfl (ex_por_t rfl rfl hg2014) ?_
      refine ops_ex rfl (guard_none rfl) rfl rfl (ex_assign rfl rfl) ?_
      refine ops_nil ?_
      exact at_meet [(2, .bool ((decide (x0 < 1)) || (decide (4 < x0))))] ⟨rfl, HM⟩ (Sub.cons rfl Sub.nil)
    · skip
      refine ops_ex rfl (guard_on rfl rfl rfl hg2014) rfl rfl (ex_move rfl rfl) ?_
      refine ops_ex rfl (guard_on rfl rfl rfl hg2014) rfl rfl (ex_gtr rfl rfl rfl) ?_
      refine ops_ex (v := .bool ((decide (x0 < 1)) || (decide (4 < x0)))) rfl (guard_none rfl) rfl rfl (ex_por_f rfl rfl hg2014 rfl) ?_
      refine ops_ex rfl (guard_none rfl) rfl rfl (ex_assign rfl rfl) ?_
      refine ops_nil ?_
      exact at_meet [(2, .bool ((decide (x0 < 1)) || (decide (4 < x0))))] ⟨rfl, HM⟩ (Sub.cons rfl Sub.nil)
  · rintro _ w2016 ⟨rfl, HM⟩
    refine at_then ?_
    refine run_ret ?_
    have hR := Option.some.inj H
    subst hR
    exact at_ret1 rfl rfl ⟨_, rfl, rfl, HM⟩

def impl_isId.f (k : Nat) (x0 : Int) : Option Bool := ((impl_within.f k x0 1 60).bind fun t2044 => some t2044)
theorem impl_isId.calls {k : Nat} {x0 : Int}  {w : World}  {r : Bool} (H : impl_isId.f k x0 = some r) :
    Calls Tryd.prog 56 ([.int .i64 x0] : List Value).toArray w (fun e w_ => ∃ v, e = .returned v ∧ v = (.bool r) ∧ Mem w [] w_ []) := by
  have HM := Mem.start w
  refine calls_run (N := 5) Tryd.func56 rfl rfl rfl rfl ?_
  unfold impl_isId.f at H
  refine run_seq ?_
  refine run_region rfl ?_
  refine ops_ex rfl (guard_none rfl) rfl rfl (ex_assign rfl rfl) ?_
  refine ops_nil ?_
  refine at_then ?_
  refine run_seq ?_
  obtain ⟨t2044, h2045, H⟩ := bind_some H
  refine run_region rfl ?_
  refine ops_ex rfl (guard_none rfl) rfl rfl (ex_move rfl rfl) ?_
  refine ops_does rfl (guard_none rfl) rfl rfl (does_callk rfl callok54 rfl (impl_within.calls (x0 := x0) (x1 := 1) (x2 := 60) h2045)) ?_
  rintro _ w2046 ⟨rfl, hn⟩
  replace HM : Mem w [] w2046 [] := HM.call hn
  refine ops_ex rfl (guard_none rfl) rfl rfl (ex_assign rfl rfl) ?_
  refine ops_nil ?_
  refine at_then ?_
  refine run_ret ?_
  have hR := Option.some.inj H
  subst hR
  exact at_ret1 rfl rfl ⟨_, rfl, rfl, HM⟩

def impl_isRef.f (k : Nat) (x0 : Ref) : Option Bool := ((impl_isId.f k x0.fTx).bind fun t2055 => ((bif t2055 then impl_within.f k x0.fAt 0 3 else some default).bind fun t2057 => some (t2055 && t2057)))
theorem impl_isRef.calls {k : Nat} {x0 : Ref}  {w : World}  {r : Bool} (H : impl_isRef.f k x0 = some r) :
    Calls Tryd.prog 72 ([.agg #[(.int .i64 x0.fTx), (.int .i64 x0.fAt)]] : List Value).toArray w (fun e w_ => ∃ v, e = .returned v ∧ v = (.bool r) ∧ Mem w [] w_ []) := by
  have HM := Mem.start w
  refine calls_run (N := 11) Tryd.func72 rfl rfl rfl rfl ?_
  unfold impl_isRef.f at H
  refine run_seq ?_
  refine run_region rfl ?_
  refine ops_does rfl (guard_none rfl) rfl rfl (does_box (cs := [.int .i64 x0.fTx, .int .i64 x0.fAt]) rfl rfl rfl HM) ?_
  rintro _ w2054 ⟨b2051, rfl, HM⟩
  refine ops_ex rfl (guard_none rfl) rfl rfl (ex_assign rfl rfl) ?_
  refine ops_nil ?_
  refine at_then ?_
  refine run_seq ?_
  obtain ⟨t2055, h2056, H⟩ := bind_some H
  obtain ⟨t2057, h2058, H⟩ := bind_some H
  refine run_meet (fun ρ_ w_ => ρ_ = [(2, .bool (t2055 && t2057))] ∧ Mem w [] w_ []) ?_ ?_
  · skip
    refine run_region rfl ?_
    refine ops_ex rfl (guard_none rfl) rfl rfl (ex_fieldAddr (off' := 0) rfl rfl Tryd.underlying101 rfl tsz2 rfl) ?_
    refine ops_ex rfl (guard_none rfl) rfl rfl (ex_load1 rfl rfl Tryd.underlying2 rfl ((HM.box_at 0 rfl) 0 _ rfl)) ?_
    refine ops_does rfl (guard_none rfl) rfl rfl (does_callk rfl callok56 rfl (impl_isId.calls (x0 := x0.fTx) h2056)) ?_
    rintro _ w2059 ⟨rfl, hn⟩
    replace HM : Mem w [] w2059 [box b2051 101 [.int .i64 x0.fTx, .int .i64 x0.fAt]] := HM.call hn
    refine ops_ex rfl (guard_none rfl) rfl rfl (ex_move rfl rfl) ?_
    refine bool_cases t2055 (fun hg2060 => ?_) (fun hg2060 => ?_)
    · skip
      refine ops_ex rfl (guard_on rfl rfl rfl hg2060) rfl rfl (ex_fieldAddr (off' := 1) rfl rfl Tryd.underlying101 rfl tsz2 rfl) ?_
      refine ops_ex rfl (guard_on rfl rfl rfl hg2060) rfl rfl (ex_load1 rfl rfl Tryd.underlying2 rfl ((HM.box_at 0 rfl) 1 _ rfl)) ?_
      refine ops_does rfl (guard_on rfl rfl rfl hg2060) rfl rfl (does_callk rfl callok54 rfl (impl_within.calls (x0 := x0.fAt) (x1 := 0) (x2 := 3) (cond_t hg2060 h2058))) ?_
      rintro _ w2061 ⟨rfl, hn⟩
      replace HM : Mem w [] w2061 [box b2051 101 [.int .i64 x0.fTx, .int .i64 x0.fAt]] := HM.call hn
      refine ops_ex (v := .bool (t2055 && t2057)) rfl (guard_none rfl) rfl rfl (ex_pand_t rfl rfl hg2060 rfl) ?_
      refine ops_ex rfl (guard_none rfl) rfl rfl (ex_assign rfl rfl) ?_
      refine ops_nil ?_
      replace HM := (HM.front 0 rfl rfl).drop
      exact at_meet [(2, .bool (t2055 && t2057))] ⟨rfl, HM⟩ (Sub.cons rfl Sub.nil)
    · skip
      refine ops_off rfl (guard_off rfl rfl rfl hg2060) rfl rfl ?_
      refine ops_off rfl (guard_off rfl rfl rfl hg2060) rfl rfl ?_
      refine ops_off rfl (guard_off rfl rfl rfl hg2060) rfl rfl ?_
      have hg2062 : (t2055 && t2057) = false := by simp only [hg2060, Bool.and_true, Bool.true_and, Bool.and_false, Bool.false_and, Bool.or_true, Bool.true_or, Bool.or_false, Bool.false_or, Bool.not_true, Bool.not_false, Bool.not_not]
      refine ops_ex (v := .bool (t2055 && t2057)) rfl (guard_none rfl) rfl rfl (ex_pand_f rfl rfl hg2060) ?_
      refine ops_ex rfl (guard_none rfl) rfl rfl (ex_assign rfl rfl) ?_
      refine ops_nil ?_
      replace HM := (HM.front 0 rfl rfl).drop
      exact at_meet [(2, .bool (t2055 && t2057))] ⟨rfl, HM⟩ (Sub.cons rfl Sub.nil)
  · rintro _ w2063 ⟨rfl, HM⟩
    refine at_then ?_
    refine run_ret ?_
    have hR := Option.some.inj H
    subst hR
    exact at_ret1 rfl rfl ⟨_, rfl, rfl, HM⟩

def slices_Index_impl_Ref.l0 (x0 : List Ref) (x1 : Ref) : Nat → Int → Option (Int ⊕ Unit)
  | 0, _ => none
  | k + 1, a2118 => (bif (decide (a2118 < (x0.length : Int))) then (chk (idxOk a2118 x0.length) (bif ((x1.fTx == ((gt x0 a2118).fTx)) && (x1.fAt == ((gt x0 a2118).fAt))) then some (.inl a2118) else slices_Index_impl_Ref.l0 x0 x1 k (wrap64 (a2118 + 1)))) else some (.inr ()))
theorem slices_Index_impl_Ref.l0_z (x0 : List Ref) (x1 : Ref) (a2118 : Int) : slices_Index_impl_Ref.l0 x0 x1 0 a2118 = none := rfl
theorem slices_Index_impl_Ref.l0_s (x0 : List Ref) (x1 : Ref) (k : Nat) (a2118 : Int) : slices_Index_impl_Ref.l0 x0 x1 (k + 1) a2118 = (bif (decide (a2118 < (x0.length : Int))) then (chk (idxOk a2118 x0.length) (bif ((x1.fTx == ((gt x0 a2118).fTx)) && (x1.fAt == ((gt x0 a2118).fAt))) then some (.inl a2118) else slices_Index_impl_Ref.l0 x0 x1 k (wrap64 (a2118 + 1)))) else some (.inr ())) := rfl
def slices_Index_impl_Ref.f (k : Nat) (x0 : List Ref) (x1 : Ref) : Option Int := ((slices_Index_impl_Ref.l0 x0 x1 k 0).bind fun o2112 => thn o2112 (fun r => some r) (fun _ => some (-1)))
theorem slices_Index_impl_Ref.calls {k : Nat} {x0 : List Ref} {x1 : Ref} {p0 : Value} {w : World} (hp0 : RdS kRef w p0 x0) {r : Int} (H : slices_Index_impl_Ref.f k x0 x1 = some r) :
    Calls Tryd.prog 96 ([p0, .agg #[(.int .i64 x1.fTx), (.int .i64 x1.fAt)]] : List Value).toArray w (fun e w_ => ∃ v, e = .returned v ∧ v = (.int .i64 r) ∧ Mem w [] w_ []) := by
  have HM := Mem.start w
  refine calls_run (N := 19) Tryd.func96 rfl rfl rfl rfl ?_
  unfold slices_Index_impl_Ref.f at H
  refine run_seq ?_
  refine run_region rfl ?_
  refine ops_does rfl (guard_none rfl) rfl rfl (does_box (cs := [.int .i64 x1.fTx, .int .i64 x1.fAt]) rfl rfl rfl HM) ?_
  rintro _ w2098 ⟨b2095, rfl, HM⟩
  refine ops_ex rfl (guard_none rfl) rfl rfl (ex_assign rfl rfl) ?_
  refine ops_nil ?_
  refine at_then ?_
  obtain ⟨o2112, ho2113, H⟩ := bind_some H
  refine run_mid (fun ρ_ w_ => Sum.inr () = o2112 ∧ ρ_ = [] ∧ Mem w [] w_ []) ?_ ?_
  · skip
    refine run_seq ?_
    refine run_region rfl ?_
    refine ops_ex rfl (guard_none rfl) rfl rfl (ex_move rfl rfl) ?_
    refine ops_ex rfl (guard_none rfl) rfl rfl (ex_len (d := kRef) (xs := x0) rfl rfl Tryd.underlying30 hp0) ?_
    refine ops_ex rfl (guard_none rfl) rfl rfl (ex_move rfl rfl) ?_
    refine ops_nil ?_
    refine at_then ?_
    refine run_block ?_
    refine run_loop (fun k_ ρ_ w_ => ∃ a2118 : Int, slices_Index_impl_Ref.l0 x0 x1 k_ a2118 = some o2112 ∧ ρ_ = [(0, p0), (3, .pointer (some ⟨b2095, 0, none⟩)), (7, .int .i64 (x0.length : Int)), (8, .int .i64 a2118)] ∧ Mem w [] w_ [box b2095 101 [.int .i64 x1.fTx, .int .i64 x1.fAt]]) k (ρ1 := [(0, p0), (3, .pointer (some ⟨b2095, 0, none⟩)), (7, .int .i64 (x0.length : Int)), (8, .int .i64 0)]) ⟨_, ho2113, rfl, HM⟩ (Sub.cons rfl (Sub.cons rfl (Sub.cons rfl (Sub.cons rfl Sub.nil)))) ?_
    clear HM ho2113
    rintro k2123 _ w2124 ⟨a2118, ho2113, rfl, HM⟩
    obtain _ | k2123 := k2123
    · exact nomatch ((slices_Index_impl_Ref.l0_z x0 x1 a2118).symm.trans ho2113)
    replace ho2113 := (slices_Index_impl_Ref.l0_s x0 x1 k2123 a2118).symm.trans ho2113
    refine run_seq ?_
    refine run_region rfl ?_
    refine ops_ex rfl (guard_none rfl) rfl rfl (ex_lss rfl rfl rfl) ?_
    refine ops_nil ?_
    refine at_then ?_
    refine run_seq ?_
    refine run_cond (b := (decide (a2118 < (x0.length : Int)))) rfl (fun hb2125 => ?_) (fun hb2125 => ?_)
    · replace ho2113 := cond_t hb2125 ho2113
      refine run_skip ?_
      refine at_then ?_
      refine run_seq ?_
      refine run_block ?_
      refine run_seq ?_
      refine run_region rfl ?_
      refine ops_ex rfl (guard_none rfl) rfl rfl (ex_move rfl rfl) ?_
      refine ops_ex rfl (guard_none rfl) rfl rfl (ex_assign rfl rfl) ?_
      refine ops_nil ?_
      refine at_then ?_
      refine run_seq ?_
      obtain ⟨e2126, ho2113⟩ := chk_some ho2113
      refine run_drawf (fun w_ => Mem w [] w_ [box b2095 101 [.int .i64 x1.fTx, .int .i64 x1.fAt]]) [(0, true), (1, true), (2, true), (3, true), (4, true), (5, true)] mixed rfl rfl (by kernel_rfl) ?_
      replace HM := HM.grow (fr_drew _)
      have hS := Mem.suf (M := []) HM
      refine drwp_take rfl (guard_none rfl) rfl rfl (fun w_ hS_ => (ex_loadN (cs := [(.int .i64 x1.fTx), (.int .i64 x1.fAt)]) rfl rfl Tryd.underlying101 rfl tsz101 rfl ((hS_.box_at 0 rfl).sub 0 2 rfl))) hS ?_
      refine drwp_take rfl (guard_none rfl) rfl rfl (fun w_ hS_ => (ex_move rfl rfl)) hS ?_
      refine drwp_take rfl (guard_none rfl) rfl rfl (fun w_ hS_ => (ex_move rfl rfl)) hS ?_
      have hc2127 : CellsAt _ (sb p0) (so p0 + (a2118).toNat * 2) [(.int .i64 ((gt x0 a2118).fTx)), (.int .i64 ((gt x0 a2118).fAt))] := rd_plain hp0 e2126
      refine drwp_take rfl (guard_none rfl) rfl rfl (fun w_ hS_ => (ex_indexAddr (d := kRef) rfl rfl rfl Tryd.underlying30 tsz101 hp0 (idx_lo e2126) (idx_hi e2126))) hS ?_
      refine drwp_take rfl (guard_none rfl) rfl rfl (fun w_ hS_ => (ex_loadN (cs := [(.int .i64 ((gt x0 a2118).fTx)), (.int .i64 ((gt x0 a2118).fAt))]) rfl rfl Tryd.underlying101 rfl tsz101 rfl ((hS_.at_ hc2127).sub 0 2 rfl))) hS ?_
      refine drwp_take rfl (guard_none rfl) rfl rfl (fun w_ hS_ => (ex_aeql rfl rfl rfl (by kernel_rfl) (eqs101 _ _ _ _ _))) hS ?_
      refine drwp_done ?_
      refine at_then ?_
      refine run_cond (b := ((x1.fTx == ((gt x0 a2118).fTx)) && (x1.fAt == ((gt x0 a2118).fAt)))) rfl (fun hb2128 => ?_) (fun hb2128 => ?_)
      · replace ho2113 := cond_t hb2128 ho2113
        refine run_seq ?_
        refine run_region rfl ?_
        refine ops_ex rfl (guard_none rfl) rfl rfl (ex_move rfl rfl) ?_
        refine ops_ex rfl (guard_none rfl) rfl rfl (ex_assign rfl rfl) ?_
        refine ops_nil ?_
        refine at_then ?_
        refine run_ret ?_
        refine at_block_ret ?_
        refine at_then_ret ?_
        refine at_then_ret ?_
        refine at_block_ret ?_
        refine at_then_ret ?_
        replace HM := (HM.front 0 rfl rfl).drop
        have hR := Option.some.inj ho2113
        subst hR
        have hT := thn_inl H
        have hR := Option.some.inj hT
        subst hR
        exact at_ret1 rfl rfl ⟨_, rfl, rfl, HM⟩
      · replace ho2113 := cond_f hb2128 ho2113
        refine run_skip ?_
        refine at_block ?_
        refine at_then ?_
        refine run_region rfl ?_
        refine ops_ex rfl (guard_none rfl) rfl rfl (ex_add rfl rfl rfl) ?_
        refine ops_ex rfl (guard_none rfl) rfl rfl (ex_move rfl rfl) ?_
        refine ops_nil ?_
        exact at_again k2123 (ρ1 := [(0, p0), (3, .pointer (some ⟨b2095, 0, none⟩)), (7, .int .i64 (x0.length : Int)), (8, .int .i64 (wrap64 (a2118 + 1)))]) (Nat.lt_succ_self _) ⟨_, ho2113, rfl, HM⟩ (Sub.cons rfl (Sub.cons rfl (Sub.cons rfl (Sub.cons rfl Sub.nil))))
    · replace ho2113 := cond_f hb2125 ho2113
      refine run_exit ?_
      refine at_then_exit ?_
      refine at_then_exit ?_
      refine at_block_exit ?_
      replace HM := (HM.front 0 rfl rfl).drop
      exact at_mid (ρ' := []) ⟨(Option.some.inj ho2113), rfl, HM⟩ Sub.nil
  · rintro _ w2129 ⟨rfl, rfl, HM⟩
    replace H := (thn_inr H)
    refine run_seq ?_
    refine run_region rfl ?_
    refine ops_ex rfl (guard_none rfl) rfl rfl (ex_assign rfl rfl) ?_
    refine ops_nil ?_
    refine at_then ?_
    refine run_ret ?_
    have hR := Option.some.inj H
    subst hR
    exact at_ret1 rfl rfl ⟨_, rfl, rfl, HM⟩

def slices_Contains_impl_Ref.f (k : Nat) (x0 : List Ref) (x1 : Ref) : Option Bool := ((slices_Index_impl_Ref.f k x0 x1).bind fun t2136 => some (decide (0 ≤ t2136)))
theorem slices_Contains_impl_Ref.calls {k : Nat} {x0 : List Ref} {x1 : Ref} {p0 : Value} {w : World} (hp0 : RdS kRef w p0 x0) {r : Bool} (H : slices_Contains_impl_Ref.f k x0 x1 = some r) :
    Calls Tryd.prog 73 ([p0, .agg #[(.int .i64 x1.fTx), (.int .i64 x1.fAt)]] : List Value).toArray w (fun e w_ => ∃ v, e = .returned v ∧ v = (.bool r) ∧ Mem w [] w_ []) := by
  have HM := Mem.start w
  refine calls_run (N := 9) Tryd.func73 rfl rfl rfl rfl ?_
  unfold slices_Contains_impl_Ref.f at H
  refine run_seq ?_
  refine run_region rfl ?_
  refine ops_does rfl (guard_none rfl) rfl rfl (does_box (cs := [.int .i64 x1.fTx, .int .i64 x1.fAt]) rfl rfl rfl HM) ?_
  rintro _ w2135 ⟨b2132, rfl, HM⟩
  refine ops_ex rfl (guard_none rfl) rfl rfl (ex_assign rfl rfl) ?_
  refine ops_nil ?_
  refine at_then ?_
  refine run_seq ?_
  obtain ⟨t2136, h2137, H⟩ := bind_some H
  refine run_region rfl ?_
  refine ops_ex rfl (guard_none rfl) rfl rfl (ex_move rfl rfl) ?_
  refine ops_ex rfl (guard_none rfl) rfl rfl (ex_loadN (cs := [(.int .i64 x1.fTx), (.int .i64 x1.fAt)]) rfl rfl Tryd.underlying101 rfl tsz101 rfl ((HM.box_at 0 rfl).sub 0 2 rfl)) ?_
  refine ops_does rfl (guard_none rfl) rfl rfl (does_callk rfl callok96 rfl (slices_Index_impl_Ref.calls (x0 := x0) (x1 := x1) (HM.rd hp0) h2137)) ?_
  rintro _ w2138 ⟨rfl, hn⟩
  replace HM : Mem w [] w2138 [box b2132 101 [.int .i64 x1.fTx, .int .i64 x1.fAt]] := HM.call hn
  refine ops_ex rfl (guard_none rfl) rfl rfl (ex_geq rfl rfl rfl) ?_
  refine ops_ex rfl (guard_none rfl) rfl rfl (ex_assign rfl rfl) ?_
  refine ops_nil ?_
  refine at_then ?_
  refine run_ret ?_
  replace HM := (HM.front 0 rfl rfl).drop
  have hR := Option.some.inj H
  subst hR
  exact at_ret1 rfl rfl ⟨_, rfl, rfl, HM⟩

def impl_areKeys_1.f (k : Nat) (x0 : Int) : Option Bool := ((impl_isKey.f k x0).bind fun t2208 => some (!t2208))
theorem impl_areKeys_1.calls {k : Nat} {x0 : Int}  {w : World}  {r : Bool} (H : impl_areKeys_1.f k x0 = some r) :
    Calls Tryd.prog 118 ([.int .i64 x0] : List Value).toArray w (fun e w_ => ∃ v, e = .returned v ∧ v = (.bool r) ∧ Mem w [] w_ []) := by
  have HM := Mem.start w
  refine calls_run (N := 6) Tryd.func118 rfl rfl rfl rfl ?_
  unfold impl_areKeys_1.f at H
  refine run_seq ?_
  refine run_region rfl ?_
  refine ops_ex rfl (guard_none rfl) rfl rfl (ex_assign rfl rfl) ?_
  refine ops_nil ?_
  refine at_then ?_
  refine run_seq ?_
  obtain ⟨t2208, h2209, H⟩ := bind_some H
  refine run_region rfl ?_
  refine ops_ex rfl (guard_none rfl) rfl rfl (ex_move rfl rfl) ?_
  refine ops_does rfl (guard_none rfl) rfl rfl (does_callk rfl callok55 rfl (impl_isKey.calls (x0 := x0) h2209)) ?_
  rintro _ w2210 ⟨rfl, hn⟩
  replace HM : Mem w [] w2210 [] := HM.call hn
  refine ops_ex rfl (guard_none rfl) rfl rfl (ex_not rfl rfl) ?_
  refine ops_ex rfl (guard_none rfl) rfl rfl (ex_assign rfl rfl) ?_
  refine ops_nil ?_
  refine at_then ?_
  refine run_ret ?_
  have hR := Option.some.inj H
  subst hR
  exact at_ret1 rfl rfl ⟨_, rfl, rfl, HM⟩

def slices_IndexFunc_int64.l0 (x0 : List Int) : Nat → Int → Option (Int ⊕ Unit)
  | 0, _ => none
  | k + 1, a2256 => (bif (decide (a2256 < (x0.length : Int))) then (chk (idxOk a2256 x0.length) ((impl_areKeys_1.f k (gt x0 a2256)).bind fun t2268 => (bif t2268 then some (.inl a2256) else slices_IndexFunc_int64.l0 x0 k (wrap64 (a2256 + 1))))) else some (.inr ()))
theorem slices_IndexFunc_int64.l0_z (x0 : List Int) (a2256 : Int) : slices_IndexFunc_int64.l0 x0 0 a2256 = none := rfl
theorem slices_IndexFunc_int64.l0_s (x0 : List Int) (k : Nat) (a2256 : Int) : slices_IndexFunc_int64.l0 x0 (k + 1) a2256 = (bif (decide (a2256 < (x0.length : Int))) then (chk (idxOk a2256 x0.length) ((impl_areKeys_1.f k (gt x0 a2256)).bind fun t2268 => (bif t2268 then some (.inl a2256) else slices_IndexFunc_int64.l0 x0 k (wrap64 (a2256 + 1))))) else some (.inr ())) := rfl
def slices_IndexFunc_int64.f (k : Nat) (x0 : List Int) : Option Int := ((slices_IndexFunc_int64.l0 x0 k 0).bind fun o2248 => thn o2248 (fun r => some r) (fun _ => some (-1)))
theorem slices_IndexFunc_int64.calls {k : Nat} {x0 : List Int} {p0 : Value} {w : World} (hp0 : RdS kInt w p0 x0) {r : Int} (H : slices_IndexFunc_int64.f k x0 = some r) :
    Calls Tryd.prog 134 ([p0, .func (.func 118) #[] #[]] : List Value).toArray w (fun e w_ => ∃ v, e = .returned v ∧ v = (.int .i64 r) ∧ Mem w [] w_ []) := by
  have HM := Mem.start w
  refine calls_run (N := 19) Tryd.func134 rfl rfl rfl rfl ?_
  unfold slices_IndexFunc_int64.f at H
  refine run_seq ?_
  refine run_region rfl ?_
  refine ops_ex rfl (guard_none rfl) rfl rfl (ex_assign rfl rfl) ?_
  refine ops_nil ?_
  refine at_then ?_
  obtain ⟨o2248, ho2249, H⟩ := bind_some H
  refine run_mid (fun ρ_ w_ => Sum.inr () = o2248 ∧ ρ_ = [] ∧ Mem w [] w_ []) ?_ ?_
  · skip
    refine run_seq ?_
    refine run_region rfl ?_
    refine ops_ex rfl (guard_none rfl) rfl rfl (ex_move rfl rfl) ?_
    refine ops_ex rfl (guard_none rfl) rfl rfl (ex_len (d := kInt) (xs := x0) rfl rfl Tryd.underlying38 hp0) ?_
    refine ops_ex rfl (guard_none rfl) rfl rfl (ex_move rfl rfl) ?_
    refine ops_nil ?_
    refine at_then ?_
    refine run_block ?_
    refine run_loop (fun k_ ρ_ w_ => ∃ a2256 : Int, slices_IndexFunc_int64.l0 x0 k_ a2256 = some o2248 ∧ ρ_ = [(0, p0), (1, .func (.func 118) #[] #[]), (7, .int .i64 (x0.length : Int)), (8, .int .i64 a2256)] ∧ Mem w [] w_ []) k (ρ1 := [(0, p0), (1, .func (.func 118) #[] #[]), (7, .int .i64 (x0.length : Int)), (8, .int .i64 0)]) ⟨_, ho2249, rfl, HM⟩ (Sub.cons rfl (Sub.cons rfl (Sub.cons rfl (Sub.cons rfl Sub.nil)))) ?_
    clear HM ho2249
    rintro k2263 _ w2264 ⟨a2256, ho2249, rfl, HM⟩
    obtain _ | k2263 := k2263
    · exact nomatch ((slices_IndexFunc_int64.l0_z x0 a2256).symm.trans ho2249)
    replace ho2249 := (slices_IndexFunc_int64.l0_s x0 k2263 a2256).symm.trans ho2249
    refine run_seq ?_
    refine run_region rfl ?_
    refine ops_ex rfl (guard_none rfl) rfl rfl (ex_lss rfl rfl rfl) ?_
    refine ops_nil ?_
    refine at_then ?_
    refine run_seq ?_
    refine run_cond (b := (decide (a2256 < (x0.length : Int)))) rfl (fun hb2265 => ?_) (fun hb2265 => ?_)
    · replace ho2249 := cond_t hb2265 ho2249
      refine run_skip ?_
      refine at_then ?_
      refine run_seq ?_
      refine run_block ?_
      refine run_seq ?_
      refine run_region rfl ?_
      refine ops_ex rfl (guard_none rfl) rfl rfl (ex_move rfl rfl) ?_
      refine ops_ex rfl (guard_none rfl) rfl rfl (ex_assign rfl rfl) ?_
      refine ops_nil ?_
      refine at_then ?_
      refine run_seq ?_
      obtain ⟨e2266, ho2249⟩ := chk_some ho2249
      obtain ⟨t2268, h2269, ho2249⟩ := bind_some ho2249
      refine run_region rfl ?_
      refine ops_ex rfl (guard_none rfl) rfl rfl (ex_move rfl rfl) ?_
      refine ops_ex rfl (guard_none rfl) rfl rfl (ex_move rfl rfl) ?_
      refine ops_ex rfl (guard_none rfl) rfl rfl (ex_move rfl rfl) ?_
      have hc2267 : CellsAt _ (sb p0) (so p0 + (a2256).toNat * 1) [(.int .i64 (gt x0 a2256))] := rd_plain hp0 e2266
      refine ops_ex rfl (guard_none rfl) rfl rfl (ex_indexAddr (d := kInt) rfl rfl rfl Tryd.underlying38 tsz2 hp0 (idx_lo e2266) (idx_hi e2266)) ?_
      refine ops_ex rfl (guard_none rfl) rfl rfl (ex_load1 rfl rfl Tryd.underlying2 rfl ((HM.at_ hc2267) 0 _ rfl)) ?_
      refine ops_does rfl (guard_none rfl) rfl rfl (does_callvk rfl callok118 rfl rfl rfl (impl_areKeys_1.calls (x0 := (gt x0 a2256)) h2269)) ?_
      rintro _ w2270 ⟨rfl, hn⟩
      replace HM : Mem w [] w2270 [] := HM.call hn
      refine ops_nil ?_
      refine at_then ?_
      refine run_cond (b := t2268) rfl (fun hb2271 => ?_) (fun hb2271 => ?_)
      · replace ho2249 := cond_t hb2271 ho2249
        refine run_seq ?_
        refine run_region rfl ?_
        refine ops_ex rfl (guard_none rfl) rfl rfl (ex_move rfl rfl) ?_
        refine ops_ex rfl (guard_none rfl) rfl rfl (ex_assign rfl rfl) ?_
        refine ops_nil ?_
        refine at_then ?_
        refine run_ret ?_
        refine at_block_ret ?_
        refine at_then_ret ?_
        refine at_then_ret ?_
        refine at_block_ret ?_
        refine at_then_ret ?_
        have hR := Option.some.inj ho2249
        subst hR
        have hT := thn_inl H
        have hR := Option.some.inj hT
        subst hR
        exact at_ret1 rfl rfl ⟨_, rfl, rfl, HM⟩
      · replace ho2249 := cond_f hb2271 ho2249
        refine run_skip ?_
        refine at_block ?_
        refine at_then ?_
        refine run_region rfl ?_
        refine ops_ex rfl (guard_none rfl) rfl rfl (ex_add rfl rfl rfl) ?_
        refine ops_ex rfl (guard_none rfl) rfl rfl (ex_move rfl rfl) ?_
        refine ops_nil ?_
        exact at_again k2263 (ρ1 := [(0, p0), (1, .func (.func 118) #[] #[]), (7, .int .i64 (x0.length : Int)), (8, .int .i64 (wrap64 (a2256 + 1)))]) (Nat.lt_succ_self _) ⟨_, ho2249, rfl, HM⟩ (Sub.cons rfl (Sub.cons rfl (Sub.cons rfl (Sub.cons rfl Sub.nil))))
    · replace ho2249 := cond_f hb2265 ho2249
      refine run_exit ?_
      refine at_then_exit ?_
      refine at_then_exit ?_
      refine at_block_exit ?_
      exact at_mid (ρ' := []) ⟨(Option.some.inj ho2249), rfl, HM⟩ Sub.nil
  · rintro _ w2272 ⟨rfl, rfl, HM⟩
    replace H := (thn_inr H)
    refine run_seq ?_
    refine run_region rfl ?_
    refine ops_ex rfl (guard_none rfl) rfl rfl (ex_assign rfl rfl) ?_
    refine ops_nil ?_
    refine at_then ?_
    refine run_ret ?_
    have hR := Option.some.inj H
    subst hR
    exact at_ret1 rfl rfl ⟨_, rfl, rfl, HM⟩

def slices_ContainsFunc_int64.f (k : Nat) (x0 : List Int) : Option Bool := ((slices_IndexFunc_int64.f k x0).bind fun t2275 => some (decide (0 ≤ t2275)))
theorem slices_ContainsFunc_int64.calls {k : Nat} {x0 : List Int} {p0 : Value} {w : World} (hp0 : RdS kInt w p0 x0) {r : Bool} (H : slices_ContainsFunc_int64.f k x0 = some r) :
    Calls Tryd.prog 117 ([p0, .func (.func 118) #[] #[]] : List Value).toArray w (fun e w_ => ∃ v, e = .returned v ∧ v = (.bool r) ∧ Mem w [] w_ []) := by
  have HM := Mem.start w
  refine calls_run (N := 9) Tryd.func117 rfl rfl rfl rfl ?_
  unfold slices_ContainsFunc_int64.f at H
  refine run_seq ?_
  refine run_region rfl ?_
  refine ops_ex rfl (guard_none rfl) rfl rfl (ex_assign rfl rfl) ?_
  refine ops_nil ?_
  refine at_then ?_
  refine run_seq ?_
  obtain ⟨t2275, h2276, H⟩ := bind_some H
  refine run_region rfl ?_
  refine ops_ex rfl (guard_none rfl) rfl rfl (ex_move rfl rfl) ?_
  refine ops_ex rfl (guard_none rfl) rfl rfl (ex_move rfl rfl) ?_
  refine ops_does rfl (guard_none rfl) rfl rfl (does_callk rfl callok134 rfl (slices_IndexFunc_int64.calls (x0 := x0) (HM.rd hp0) h2276)) ?_
  rintro _ w2277 ⟨rfl, hn⟩
  replace HM : Mem w [] w2277 [] := HM.call hn
  refine ops_ex rfl (guard_none rfl) rfl rfl (ex_geq rfl rfl rfl) ?_
  refine ops_ex rfl (guard_none rfl) rfl rfl (ex_assign rfl rfl) ?_
  refine ops_nil ?_
  refine at_then ?_
  refine run_ret ?_
  have hR := Option.some.inj H
  subst hR
  exact at_ret1 rfl rfl ⟨_, rfl, rfl, HM⟩

def impl_areKeys.f (k : Nat) (x0 : List Int) : Option Bool := ((slices_ContainsFunc_int64.f k x0).bind fun t2280 => some (!t2280))
theorem impl_areKeys.calls {k : Nat} {x0 : List Int} {p0 : Value} {w : World} (hp0 : RdS kInt w p0 x0) {r : Bool} (H : impl_areKeys.f k x0 = some r) :
    Calls Tryd.prog 104 ([p0] : List Value).toArray w (fun e w_ => ∃ v, e = .returned v ∧ v = (.bool r) ∧ Mem w [] w_ []) := by
  have HM := Mem.start w
  refine calls_run (N := 6) Tryd.func104 rfl rfl rfl rfl ?_
  unfold impl_areKeys.f at H
  refine run_seq ?_
  refine run_region rfl ?_
  refine ops_ex rfl (guard_none rfl) rfl rfl (ex_assign rfl rfl) ?_
  refine ops_nil ?_
  refine at_then ?_
  refine run_seq ?_
  obtain ⟨t2280, h2281, H⟩ := bind_some H
  refine run_region rfl ?_
  refine ops_ex rfl (guard_none rfl) rfl rfl (ex_move rfl rfl) ?_
  refine ops_does rfl (guard_none rfl) rfl rfl (does_callk rfl callok117 rfl (slices_ContainsFunc_int64.calls (x0 := x0) (HM.rd hp0) h2281)) ?_
  rintro _ w2282 ⟨rfl, hn⟩
  replace HM : Mem w [] w2282 [] := HM.call hn
  refine ops_ex rfl (guard_none rfl) rfl rfl (ex_not rfl rfl) ?_
  refine ops_ex rfl (guard_none rfl) rfl rfl (ex_assign rfl rfl) ?_
  refine ops_nil ?_
  refine at_then ?_
  refine run_ret ?_
  have hR := Option.some.inj H
  subst hR
  exact at_ret1 rfl rfl ⟨_, rfl, rfl, HM⟩

def impl_isHeight.f (k : Nat) (x0 : Int) : Option Bool := ((impl_within.f k x0 0 999).bind fun t2289 => some t2289)
theorem impl_isHeight.calls {k : Nat} {x0 : Int}  {w : World}  {r : Bool} (H : impl_isHeight.f k x0 = some r) :
    Calls Tryd.prog 105 ([.int .i64 x0] : List Value).toArray w (fun e w_ => ∃ v, e = .returned v ∧ v = (.bool r) ∧ Mem w [] w_ []) := by
  have HM := Mem.start w
  refine calls_run (N := 5) Tryd.func105 rfl rfl rfl rfl ?_
  unfold impl_isHeight.f at H
  refine run_seq ?_
  refine run_region rfl ?_
  refine ops_ex rfl (guard_none rfl) rfl rfl (ex_assign rfl rfl) ?_
  refine ops_nil ?_
  refine at_then ?_
  refine run_seq ?_
  obtain ⟨t2289, h2290, H⟩ := bind_some H
  refine run_region rfl ?_
  refine ops_ex rfl (guard_none rfl) rfl rfl (ex_move rfl rfl) ?_
  refine ops_does rfl (guard_none rfl) rfl rfl (does_callk rfl callok54 rfl (impl_within.calls (x0 := x0) (x1 := 0) (x2 := 999) h2290)) ?_
  rintro _ w2291 ⟨rfl, hn⟩
  replace HM : Mem w [] w2291 [] := HM.call hn
  refine ops_ex rfl (guard_none rfl) rfl rfl (ex_assign rfl rfl) ?_
  refine ops_nil ?_
  refine at_then ?_
  refine run_ret ?_
  have hR := Option.some.inj H
  subst hR
  exact at_ret1 rfl rfl ⟨_, rfl, rfl, HM⟩

def impl_isRising.l0 (x0 : List Int) : Nat → Int → Option (Bool ⊕ Unit)
  | 0, _ => none
  | k + 1, a2343 => (bif (decide (a2343 < (x0.length : Int))) then (chk (idxOk a2343 x0.length) (chk (idxOk (wrap64 (a2343 - 1)) x0.length) (bif (decide ((gt x0 a2343) ≤ (gt x0 (wrap64 (a2343 - 1))))) then some (.inl false) else impl_isRising.l0 x0 k (wrap64 (a2343 + 1))))) else some (.inr ()))
theorem impl_isRising.l0_z (x0 : List Int) (a2343 : Int) : impl_isRising.l0 x0 0 a2343 = none := rfl
theorem impl_isRising.l0_s (x0 : List Int) (k : Nat) (a2343 : Int) : impl_isRising.l0 x0 (k + 1) a2343 = (bif (decide (a2343 < (x0.length : Int))) then (chk (idxOk a2343 x0.length) (chk (idxOk (wrap64 (a2343 - 1)) x0.length) (bif (decide ((gt x0 a2343) ≤ (gt x0 (wrap64 (a2343 - 1))))) then some (.inl false) else impl_isRising.l0 x0 k (wrap64 (a2343 + 1))))) else some (.inr ())) := rfl
def impl_isRising.f (k : Nat) (x0 : List Int) : Option Bool := ((impl_isRising.l0 x0 k 1).bind fun o2335 => thn o2335 (fun r => some r) (fun _ => some true))
theorem impl_isRising.calls {k : Nat} {x0 : List Int} {p0 : Value} {w : World} (hp0 : RdS kInt w p0 x0) {r : Bool} (H : impl_isRising.f k x0 = some r) :
    Calls Tryd.prog 106 ([p0] : List Value).toArray w (fun e w_ => ∃ v, e = .returned v ∧ v = (.bool r) ∧ Mem w [] w_ []) := by
  have HM := Mem.start w
  refine calls_run (N := 20) Tryd.func106 rfl rfl rfl rfl ?_
  unfold impl_isRising.f at H
  refine run_seq ?_
  refine run_region rfl ?_
  refine ops_ex rfl (guard_none rfl) rfl rfl (ex_assign rfl rfl) ?_
  refine ops_nil ?_
  refine at_then ?_
  obtain ⟨o2335, ho2336, H⟩ := bind_some H
  refine run_mid (fun ρ_ w_ => Sum.inr () = o2335 ∧ ρ_ = [] ∧ Mem w [] w_ []) ?_ ?_
  · skip
    refine run_seq ?_
    refine run_region rfl ?_
    refine ops_ex rfl (guard_none rfl) rfl rfl (ex_assign rfl rfl) ?_
    refine ops_nil ?_
    refine at_then ?_
    refine run_block ?_
    refine run_loop (fun k_ ρ_ w_ => ∃ a2343 : Int, impl_isRising.l0 x0 k_ a2343 = some o2335 ∧ ρ_ = [(0, p0), (3, .int .i64 a2343)] ∧ Mem w [] w_ []) k (ρ1 := [(0, p0), (3, .int .i64 1)]) ⟨_, ho2336, rfl, HM⟩ (Sub.cons rfl (Sub.cons rfl Sub.nil)) ?_
    clear HM ho2336
    rintro k2350 _ w2351 ⟨a2343, ho2336, rfl, HM⟩
    obtain _ | k2350 := k2350
    · exact nomatch ((impl_isRising.l0_z x0 a2343).symm.trans ho2336)
    replace ho2336 := (impl_isRising.l0_s x0 k2350 a2343).symm.trans ho2336
    refine run_seq ?_
    refine run_seq ?_
    refine run_region rfl ?_
    refine ops_ex rfl (guard_none rfl) rfl rfl (ex_move rfl rfl) ?_
    refine ops_ex rfl (guard_none rfl) rfl rfl (ex_move rfl rfl) ?_
    refine ops_ex rfl (guard_none rfl) rfl rfl (ex_len (d := kInt) (xs := x0) rfl rfl Tryd.underlying38 hp0) ?_
    refine ops_ex rfl (guard_none rfl) rfl rfl (ex_lss rfl rfl rfl) ?_
    refine ops_nil ?_
    refine at_then ?_
    refine run_cond (b := (decide (a2343 < (x0.length : Int)))) rfl (fun hb2352 => ?_) (fun hb2352 => ?_)
    · replace ho2336 := cond_t hb2352 ho2336
      refine run_skip ?_
      refine at_then ?_
      refine run_seq ?_
      refine run_block ?_
      refine run_seq ?_
      obtain ⟨e2353, ho2336⟩ := chk_some ho2336
      obtain ⟨e2355, ho2336⟩ := chk_some ho2336
      refine run_drawf (fun w_ => Mem w [] w_ []) [(0, true), (1, true), (2, true), (3, true), (4, true), (5, true), (6, true), (7, true), (8, true), (9, true)] mixed rfl rfl (by kernel_rfl) ?_
      replace HM := HM.grow (fr_drew _)
      have hS := Mem.suf (M := []) HM
      refine drwp_take rfl (guard_none rfl) rfl rfl (fun w_ hS_ => (ex_move rfl rfl)) hS ?_
      refine drwp_take rfl (guard_none rfl) rfl rfl (fun w_ hS_ => (ex_move rfl rfl)) hS ?_
      have hc2354 : CellsAt _ (sb p0) (so p0 + (a2343).toNat * 1) [(.int .i64 (gt x0 a2343))] := rd_plain hp0 e2353
      refine drwp_take rfl (guard_none rfl) rfl rfl (fun w_ hS_ => (ex_indexAddr (d := kInt) rfl rfl rfl Tryd.underlying38 tsz2 hp0 (idx_lo e2353) (idx_hi e2353))) hS ?_
      refine drwp_take rfl (guard_none rfl) rfl rfl (fun w_ hS_ => (ex_load1 rfl rfl Tryd.underlying2 rfl ((hS_.at_ hc2354) 0 _ rfl))) hS ?_
      refine drwp_take rfl (guard_none rfl) rfl rfl (fun w_ hS_ => (ex_move rfl rfl)) hS ?_
      refine drwp_take rfl (guard_none rfl) rfl rfl (fun w_ hS_ => (ex_move rfl rfl)) hS ?_
      refine drwp_take rfl (guard_none rfl) rfl rfl (fun w_ hS_ => (ex_sub rfl rfl rfl)) hS ?_
      have hc2356 : CellsAt _ (sb p0) (so p0 + (wrap64 (a2343 - 1)).toNat * 1) [(.int .i64 (gt x0 (wrap64 (a2343 - 1))))] := rd_plain hp0 e2355
      refine drwp_take rfl (guard_none rfl) rfl rfl (fun w_ hS_ => (ex_indexAddr (d := kInt) rfl rfl rfl Tryd.underlying38 tsz2 hp0 (idx_lo e2355) (idx_hi e2355))) hS ?_
      refine drwp_take rfl (guard_none rfl) rfl rfl (fun w_ hS_ => (ex_load1 rfl rfl Tryd.underlying2 rfl ((hS_.at_ hc2356) 0 _ rfl))) hS ?_
      refine drwp_take rfl (guard_none rfl) rfl rfl (fun w_ hS_ => (ex_leq rfl rfl rfl)) hS ?_
      refine drwp_done ?_
      refine at_then ?_
      refine run_cond (b := (decide ((gt x0 a2343) ≤ (gt x0 (wrap64 (a2343 - 1)))))) rfl (fun hb2357 => ?_) (fun hb2357 => ?_)
      · replace ho2336 := cond_t hb2357 ho2336
        refine run_seq ?_
        refine run_region rfl ?_
        refine ops_ex rfl (guard_none rfl) rfl rfl (ex_assign rfl rfl) ?_
        refine ops_nil ?_
        refine at_then ?_
        refine run_ret ?_
        refine at_block_ret ?_
        refine at_then_ret ?_
        refine at_then_ret ?_
        refine at_block_ret ?_
        refine at_then_ret ?_
        have hR := Option.some.inj ho2336
        subst hR
        have hT := thn_inl H
        have hR := Option.some.inj hT
        subst hR
        exact at_ret1 rfl rfl ⟨_, rfl, rfl, HM⟩
      · replace ho2336 := cond_f hb2357 ho2336
        refine run_skip ?_
        refine at_block ?_
        refine at_then ?_
        refine run_region rfl ?_
        refine ops_ex rfl (guard_none rfl) rfl rfl (ex_move rfl rfl) ?_
        refine ops_ex rfl (guard_none rfl) rfl rfl (ex_add rfl rfl rfl) ?_
        refine ops_ex rfl (guard_none rfl) rfl rfl (ex_assign rfl rfl) ?_
        refine ops_nil ?_
        exact at_again k2350 (ρ1 := [(0, p0), (3, .int .i64 (wrap64 (a2343 + 1)))]) (Nat.lt_succ_self _) ⟨_, ho2336, rfl, HM⟩ (Sub.cons rfl (Sub.cons rfl Sub.nil))
    · replace ho2336 := cond_f hb2352 ho2336
      refine run_exit ?_
      refine at_then_exit ?_
      refine at_then_exit ?_
      refine at_block_exit ?_
      exact at_mid (ρ' := []) ⟨(Option.some.inj ho2336), rfl, HM⟩ Sub.nil
  · rintro _ w2358 ⟨rfl, rfl, HM⟩
    replace H := (thn_inr H)
    refine run_seq ?_
    refine run_region rfl ?_
    refine ops_ex rfl (guard_none rfl) rfl rfl (ex_assign rfl rfl) ?_
    refine ops_nil ?_
    refine at_then ?_
    refine run_ret ?_
    have hR := Option.some.inj H
    subst hR
    exact at_ret1 rfl rfl ⟨_, rfl, rfl, HM⟩

def impl_RuleFault.f (k : Nat) (x0 : Rule) : Option Int := ((impl_within.f k (x0.fKeys.length : Int) 1 3).bind fun t2366 => (bif !t2366 then some 2 else ((impl_areKeys.f k x0.fKeys).bind fun t2370 => ((bif (!(!t2370)) then impl_within.f k x0.fNeed 1 (x0.fKeys.length : Int) else some default).bind fun t2372 => ((bif (!((!t2370) || (!t2372))) then impl_isHeight.f k x0.fAfter else some default).bind fun t2374 => (bif (((!t2370) || (!t2372)) || (!t2374)) then some 3 else ((impl_isRising.f k x0.fKeys).bind fun t2386 => (bif !t2386 then some 1 else some 0))))))))
theorem impl_RuleFault.calls {k : Nat} {x0 : Rule} {p0_0 : Value} {w : World} (hp0_0 : RdS kInt w p0_0 x0.fKeys) {r : Int} (H : impl_RuleFault.f k x0 = some r) :
    Calls Tryd.prog 87 ([.agg #[p0_0, (.int .i64 x0.fNeed), (.int .i64 x0.fAfter)]] : List Value).toArray w (fun e w_ => ∃ v, e = .returned v ∧ v = (.int .i64 r) ∧ Mem w [] w_ []) := by
  have HM := Mem.start w
  refine calls_run (N := 34) Tryd.func87 rfl rfl rfl rfl ?_
  unfold impl_RuleFault.f at H
  refine run_seq ?_
  refine run_region rfl ?_
  refine ops_does rfl (guard_none rfl) rfl rfl (does_box (cs := [p0_0, .int .i64 x0.fNeed, .int .i64 x0.fAfter]) rfl rfl rfl HM) ?_
  rintro _ w2365 ⟨b2362, rfl, HM⟩
  refine ops_ex rfl (guard_none rfl) rfl rfl (ex_assign rfl rfl) ?_
  refine ops_nil ?_
  refine at_then ?_
  refine run_seq ?_
  refine run_region rfl ?_
  refine ops_ex rfl (guard_none rfl) rfl rfl (ex_fieldAddr (off' := 0) rfl rfl Tryd.underlying40 rfl tsz38 rfl) ?_
  refine ops_ex rfl (guard_none rfl) rfl rfl (ex_load1 rfl rfl Tryd.underlying38 rfl ((HM.box_at 0 rfl) 0 _ rfl)) ?_
  refine ops_ex rfl (guard_none rfl) rfl rfl (ex_len (d := kInt) (xs := x0.fKeys) rfl rfl Tryd.underlying38 hp0_0) ?_
  refine ops_ex rfl (guard_none rfl) rfl rfl (ex_assign rfl rfl) ?_
  refine ops_nil ?_
  refine at_then ?_
  refine run_seq ?_
  refine run_block ?_
  refine run_seq ?_
  obtain ⟨t2366, h2367, H⟩ := bind_some H
  refine run_region rfl ?_
  refine ops_ex rfl (guard_none rfl) rfl rfl (ex_move rfl rfl) ?_
  refine ops_does rfl (guard_none rfl) rfl rfl (does_callk rfl callok54 rfl (impl_within.calls (x0 := (x0.fKeys.length : Int)) (x1 := 1) (x2 := 3) h2367)) ?_
  rintro _ w2368 ⟨rfl, hn⟩
  replace HM : Mem w [] w2368 [box b2362 40 [p0_0, .int .i64 x0.fNeed, .int .i64 x0.fAfter]] := HM.call hn
  refine ops_ex rfl (guard_none rfl) rfl rfl (ex_not rfl rfl) ?_
  refine ops_ex rfl (guard_none rfl) rfl rfl (ex_assign rfl rfl) ?_
  refine ops_nil ?_
  refine at_then ?_
  refine run_cond (b := !t2366) rfl (fun hb2369 => ?_) (fun hb2369 => ?_)
  · replace H := cond_t hb2369 H
    refine run_seq ?_
    refine run_region rfl ?_
    refine ops_ex rfl (guard_none rfl) rfl rfl (ex_assign rfl rfl) ?_
    refine ops_nil ?_
    refine at_then ?_
    refine run_ret ?_
    refine at_block_ret ?_
    refine at_then_ret ?_
    replace HM := (HM.front 0 rfl rfl).drop
    have hR := Option.some.inj H
    subst hR
    exact at_ret1 rfl rfl ⟨_, rfl, rfl, HM⟩
  · replace H := cond_f hb2369 H
    refine run_seq ?_
    obtain ⟨t2370, h2371, H⟩ := bind_some H
    obtain ⟨t2372, h2373, H⟩ := bind_some H
    obtain ⟨t2374, h2375, H⟩ := bind_some H
    refine run_meet (fun ρ_ w_ => ρ_ = [(1, .pointer (some ⟨b2362, 0, none⟩)), (11, .bool (((!t2370) || (!t2372)) || (!t2374)))] ∧ Mem w [] w_ [box b2362 40 [p0_0, .int .i64 x0.fNeed, .int .i64 x0.fAfter]]) ?_ ?_
    · skip
      refine run_region rfl ?_
      refine ops_ex rfl (guard_none rfl) rfl rfl (ex_fieldAddr (off' := 0) rfl rfl Tryd.underlying40 rfl tsz38 rfl) ?_
      refine ops_ex rfl (guard_none rfl) rfl rfl (ex_load1 rfl rfl Tryd.underlying38 rfl ((HM.box_at 0 rfl) 0 _ rfl)) ?_
      refine ops_does rfl (guard_none rfl) rfl rfl (does_callk rfl callok104 rfl (impl_areKeys.calls (x0 := x0.fKeys) (HM.rd hp0_0) h2371)) ?_
      rintro _ w2376 ⟨rfl, hn⟩
      replace HM : Mem w [] w2376 [box b2362 40 [p0_0, .int .i64 x0.fNeed, .int .i64 x0.fAfter]] := HM.call hn
      refine ops_ex rfl (guard_none rfl) rfl rfl (ex_not rfl rfl) ?_
      refine ops_ex rfl (guard_none rfl) rfl rfl (ex_move rfl rfl) ?_
      refine bool_cases (!t2370) (fun hg2377 => ?_) (fun hg2377 => ?_)
      · skip
        refine ops_off rfl (guard_off rfl rfl rfl hg2377) rfl rfl ?_
        refine ops_off rfl (guard_off rfl rfl rfl hg2377) rfl rfl ?_
        refine ops_off rfl (guard_off rfl rfl rfl hg2377) rfl rfl ?_
        refine ops_off rfl (guard_off rfl rfl rfl hg2377) rfl rfl ?_
        refine ops_off rfl (guard_off rfl rfl rfl hg2377) rfl rfl ?_
        have hg2378 : ((!t2370) || (!t2372)) = true := by simp only [hg2377, Bool.and_true, Bool.true_and, Bool.and_false, Bool.false_and, Bool.or_true, Bool.true_or, Bool.or_false, Bool.false_or, Bool.not_true, Bool.not_false, Bool.not_not]
        refine ops_ex (v := .bool ((!t2370) || (!t2372))) rfl (guard_none rfl) rfl rfl (ex_por_t rfl rfl hg2377) ?_
        refine ops_ex rfl (guard_none rfl) rfl rfl (ex_move rfl rfl) ?_
        refine ops_off rfl (guard_off rfl rfl rfl hg2378) rfl rfl ?_
        refine ops_off rfl (guard_off rfl rfl rfl hg2378) rfl rfl ?_
        refine ops_off rfl (guard_off rfl rfl rfl hg2378) rfl rfl ?_
        refine ops_off rfl (guard_off rfl rfl rfl hg2378) rfl rfl ?_
        have hg2379 : (((!t2370) || (!t2372)) || (!t2374)) = true := by simp only [hg2378, Bool.and_true, Bool.true_and, Bool.and_false, Bool.false_and, Bool.or_true, Bool.true_or, Bool.or_false, Bool.false_or, Bool.not_true, Bool.not_false, Bool.not_not]
        refine ops_ex (v := .bool (((!t2370) || (!t2372)) || (!t2374))) rfl (guard_none rfl) rfl rfl (ex_por_t rfl rfl hg2378) ?_
        refine ops_ex rfl (guard_none rfl) rfl rfl (ex_assign rfl rfl) ?_
        refine ops_nil ?_
        exact at_meet [(1, .pointer (some ⟨b2362, 0, none⟩)), (11, .bool (((!t2370) || (!t2372)) || (!t2374)))] ⟨rfl, HM⟩ (Sub.cons rfl (Sub.cons rfl Sub.nil))
      · skip
        refine ops_ex rfl (guard_on rfl rfl rfl hg2377) rfl rfl (ex_fieldAddr (off' := 1) rfl rfl Tryd.underlying40 rfl tsz2 rfl) ?_
        refine ops_ex rfl (guard_on rfl rfl rfl hg2377) rfl rfl (ex_load1 rfl rfl Tryd.underlying2 rfl ((HM.box_at 0 rfl) 1 _ rfl)) ?_
        refine ops_ex rfl (guard_on rfl rfl rfl hg2377) rfl rfl (ex_move rfl rfl) ?_
        refine ops_does rfl (guard_on rfl rfl rfl hg2377) rfl rfl (does_callk rfl callok54 rfl (impl_within.calls (x0 := x0.fNeed) (x1 := 1) (x2 := (x0.fKeys.length : Int)) (cond_t (not_mk hg2377) h2373))) ?_
        rintro _ w2380 ⟨rfl, hn⟩
        replace HM : Mem w [] w2380 [box b2362 40 [p0_0, .int .i64 x0.fNeed, .int .i64 x0.fAfter]] := HM.call hn
        refine ops_ex rfl (guard_on rfl rfl rfl hg2377) rfl rfl (ex_not rfl rfl) ?_
        refine ops_ex (v := .bool ((!t2370) || (!t2372))) rfl (guard_none rfl) rfl rfl (ex_por_f rfl rfl hg2377 rfl) ?_
        refine ops_ex rfl (guard_none rfl) rfl rfl (ex_move rfl rfl) ?_
        refine bool_cases ((!t2370) || (!t2372)) (fun hg2381 => ?_) (fun hg2381 => ?_)
        · skip
          refine ops_off rfl (guard_off rfl rfl rfl hg2381) rfl rfl ?_
          refine ops_off rfl (guard_off rfl rfl rfl hg2381) rfl rfl ?_
          refine ops_off rfl (guard_off rfl rfl rfl hg2381) rfl rfl ?_
          refine ops_off rfl (guard_off rfl rfl rfl hg2381) rfl rfl ?_
          have hg2382 : (((!t2370) || (!t2372)) || (!t2374)) = true := by simp only [hg2381, Bool.and_true, Bool.true_and, Bool.and_false, Bool.false_and, Bool.or_true, Bool.true_or, Bool.or_false, Bool.false_or, Bool.not_true, Bool.not_false, Bool.not_not]
          refine ops_ex (v := .bool (((!t2370) || (!t2372)) || (!t2374))) rfl (guard_none rfl) rfl rfl (ex_por_t rfl rfl hg2381) ?_
          refine ops_ex rfl (guard_none rfl) rfl rfl (ex_assign rfl rfl) ?_
          refine ops_nil ?_
          exact at_meet [(1, .pointer (some ⟨b2362, 0, none⟩)), (11, .bool (((!t2370) || (!t2372)) || (!t2374)))] ⟨rfl, HM⟩ (Sub.cons rfl (Sub.cons rfl Sub.nil))
        · skip
          refine ops_ex rfl (guard_on rfl rfl rfl hg2381) rfl rfl (ex_fieldAddr (off' := 2) rfl rfl Tryd.underlying40 rfl tsz2 rfl) ?_
          refine ops_ex rfl (guard_on rfl rfl rfl hg2381) rfl rfl (ex_load1 rfl rfl Tryd.underlying2 rfl ((HM.box_at 0 rfl) 2 _ rfl)) ?_
          refine ops_does rfl (guard_on rfl rfl rfl hg2381) rfl rfl (does_callk rfl callok105 rfl (impl_isHeight.calls (x0 := x0.fAfter) (cond_t (not_mk hg2381) h2375))) ?_
          rintro _ w2383 ⟨rfl, hn⟩
          replace HM : Mem w [] w2383 [box b2362 40 [p0_0, .int .i64 x0.fNeed, .int .i64 x0.fAfter]] := HM.call hn
          refine ops_ex rfl (guard_on rfl rfl rfl hg2381) rfl rfl (ex_not rfl rfl) ?_
          refine ops_ex (v := .bool (((!t2370) || (!t2372)) || (!t2374))) rfl (guard_none rfl) rfl rfl (ex_por_f rfl rfl hg2381 rfl) ?_
          refine ops_ex rfl (guard_none rfl) rfl rfl (ex_assign rfl rfl) ?_
          refine ops_nil ?_
          exact at_meet [(1, .pointer (some ⟨b2362, 0, none⟩)), (11, .bool (((!t2370) || (!t2372)) || (!t2374)))] ⟨rfl, HM⟩ (Sub.cons rfl (Sub.cons rfl Sub.nil))
    · rintro _ w2384 ⟨rfl, HM⟩
      refine at_then ?_
      refine run_cond (b := (((!t2370) || (!t2372)) || (!t2374))) rfl (fun hb2385 => ?_) (fun hb2385 => ?_)
      · replace H := cond_t hb2385 H
        refine run_seq ?_
        refine run_region rfl ?_
        refine ops_ex rfl (guard_none rfl) rfl rfl (ex_assign rfl rfl) ?_
        refine ops_nil ?_
        refine at_then ?_
        refine run_ret ?_
        refine at_block_ret ?_
        refine at_then_ret ?_
        replace HM := (HM.front 0 rfl rfl).drop
        have hR := Option.some.inj H
        subst hR
        exact at_ret1 rfl rfl ⟨_, rfl, rfl, HM⟩
      · replace H := cond_f hb2385 H
        refine run_seq ?_
        obtain ⟨t2386, h2387, H⟩ := bind_some H
        refine run_region rfl ?_
        refine ops_ex rfl (guard_none rfl) rfl rfl (ex_fieldAddr (off' := 0) rfl rfl Tryd.underlying40 rfl tsz38 rfl) ?_
        refine ops_ex rfl (guard_none rfl) rfl rfl (ex_load1 rfl rfl Tryd.underlying38 rfl ((HM.box_at 0 rfl) 0 _ rfl)) ?_
        refine ops_does rfl (guard_none rfl) rfl rfl (does_callk rfl callok106 rfl (impl_isRising.calls (x0 := x0.fKeys) (HM.rd hp0_0) h2387)) ?_
        rintro _ w2388 ⟨rfl, hn⟩
        replace HM : Mem w [] w2388 [box b2362 40 [p0_0, .int .i64 x0.fNeed, .int .i64 x0.fAfter]] := HM.call hn
        refine ops_ex rfl (guard_none rfl) rfl rfl (ex_not rfl rfl) ?_
        refine ops_ex rfl (guard_none rfl) rfl rfl (ex_assign rfl rfl) ?_
        refine ops_nil ?_
        refine at_then ?_
        refine run_cond (b := !t2386) rfl (fun hb2389 => ?_) (fun hb2389 => ?_)
        · replace H := cond_t hb2389 H
          refine run_seq ?_
          refine run_region rfl ?_
          refine ops_ex rfl (guard_none rfl) rfl rfl (ex_assign rfl rfl) ?_
          refine ops_nil ?_
          refine at_then ?_
          refine run_ret ?_
          refine at_block_ret ?_
          refine at_then_ret ?_
          replace HM := (HM.front 0 rfl rfl).drop
          have hR := Option.some.inj H
          subst hR
          exact at_ret1 rfl rfl ⟨_, rfl, rfl, HM⟩
        · replace H := cond_f hb2389 H
          refine run_skip ?_
          refine at_block ?_
          refine at_then ?_
          refine run_seq ?_
          refine run_region rfl ?_
          refine ops_ex rfl (guard_none rfl) rfl rfl (ex_assign rfl rfl) ?_
          refine ops_nil ?_
          refine at_then ?_
          refine run_ret ?_
          replace HM := (HM.front 0 rfl rfl).drop
          have hR := Option.some.inj H
          subst hR
          exact at_ret1 rfl rfl ⟨_, rfl, rfl, HM⟩

def impl_outFault.f (k : Nat) (x0 : Out) : Option Int := ((impl_within.f k x0.fValue 1 1000000).bind fun t2396 => (bif !t2396 then some 3 else ((impl_RuleFault.f k x0.fRule).bind fun t2400 => some t2400)))
theorem impl_outFault.calls {k : Nat} {x0 : Out} {p0_0 : Value} {w : World} (hp0_0 : RdS kInt w p0_0 x0.fRule.fKeys) {r : Int} (H : impl_outFault.f k x0 = some r) :
    Calls Tryd.prog 74 ([.agg #[(.int .i64 x0.fValue), p0_0, (.int .i64 x0.fRule.fNeed), (.int .i64 x0.fRule.fAfter)]] : List Value).toArray w (fun e w_ => ∃ v, e = .returned v ∧ v = (.int .i64 r) ∧ Mem w [] w_ []) := by
  have HM := Mem.start w
  refine calls_run (N := 10) Tryd.func74 rfl rfl rfl rfl ?_
  unfold impl_outFault.f at H
  refine run_seq ?_
  refine run_region rfl ?_
  refine ops_does rfl (guard_none rfl) rfl rfl (does_box (cs := [.int .i64 x0.fValue, p0_0, .int .i64 x0.fRule.fNeed, .int .i64 x0.fRule.fAfter]) rfl rfl rfl HM) ?_
  rintro _ w2395 ⟨b2392, rfl, HM⟩
  refine ops_ex rfl (guard_none rfl) rfl rfl (ex_assign rfl rfl) ?_
  refine ops_nil ?_
  refine at_then ?_
  refine run_seq ?_
  refine run_seq ?_
  obtain ⟨t2396, h2397, H⟩ := bind_some H
  refine run_region rfl ?_
  refine ops_ex rfl (guard_none rfl) rfl rfl (ex_fieldAddr (off' := 0) rfl rfl Tryd.underlying106 rfl tsz2 rfl) ?_
  refine ops_ex rfl (guard_none rfl) rfl rfl (ex_load1 rfl rfl Tryd.underlying2 rfl ((HM.box_at 0 rfl) 0 _ rfl)) ?_
  refine ops_does rfl (guard_none rfl) rfl rfl (does_callk rfl callok54 rfl (impl_within.calls (x0 := x0.fValue) (x1 := 1) (x2 := 1000000) h2397)) ?_
  rintro _ w2398 ⟨rfl, hn⟩
  replace HM : Mem w [] w2398 [box b2392 106 [.int .i64 x0.fValue, p0_0, .int .i64 x0.fRule.fNeed, .int .i64 x0.fRule.fAfter]] := HM.call hn
  refine ops_ex rfl (guard_none rfl) rfl rfl (ex_not rfl rfl) ?_
  refine ops_nil ?_
  refine at_then ?_
  refine run_cond (b := !t2396) rfl (fun hb2399 => ?_) (fun hb2399 => ?_)
  · replace H := cond_t hb2399 H
    refine run_seq ?_
    refine run_region rfl ?_
    refine ops_ex rfl (guard_none rfl) rfl rfl (ex_assign rfl rfl) ?_
    refine ops_nil ?_
    refine at_then ?_
    refine run_ret ?_
    refine at_then_ret ?_
    replace HM := (HM.front 0 rfl rfl).drop
    have hR := Option.some.inj H
    subst hR
    exact at_ret1 rfl rfl ⟨_, rfl, rfl, HM⟩
  · replace H := cond_f hb2399 H
    refine run_skip ?_
    refine at_then ?_
    refine run_seq ?_
    obtain ⟨t2400, h2401, H⟩ := bind_some H
    refine run_region rfl ?_
    refine ops_ex rfl (guard_none rfl) rfl rfl (ex_fieldAddr (off' := 1) rfl rfl Tryd.underlying106 rfl tsz40 rfl) ?_
    refine ops_ex rfl (guard_none rfl) rfl rfl (ex_loadN (cs := [p0_0, (.int .i64 x0.fRule.fNeed), (.int .i64 x0.fRule.fAfter)]) rfl rfl Tryd.underlying40 rfl tsz40 rfl ((HM.box_at 0 rfl).sub 1 3 rfl)) ?_
    refine ops_does rfl (guard_none rfl) rfl rfl (does_callk rfl callok87 rfl (impl_RuleFault.calls (x0 := x0.fRule) (HM.rd hp0_0) h2401)) ?_
    rintro _ w2402 ⟨rfl, hn⟩
    replace HM : Mem w [] w2402 [box b2392 106 [.int .i64 x0.fValue, p0_0, .int .i64 x0.fRule.fNeed, .int .i64 x0.fRule.fAfter]] := HM.call hn
    refine ops_ex rfl (guard_none rfl) rfl rfl (ex_assign rfl rfl) ?_
    refine ops_nil ?_
    refine at_then ?_
    refine run_ret ?_
    replace HM := (HM.front 0 rfl rfl).drop
    have hR := Option.some.inj H
    subst hR
    exact at_ret1 rfl rfl ⟨_, rfl, rfl, HM⟩
end Go.Proofs.YtcpacdbdehphkaaDoor.Zk
