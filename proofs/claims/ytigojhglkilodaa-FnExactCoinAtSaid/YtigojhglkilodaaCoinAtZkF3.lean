/- What functions of the program compute, each as a plain function, and that they do. Conditions: as each theorem states them. -/
import Derived.Test.YtigojhglkilodaaCoinAtZkF2
namespace Go.Proofs.Ytigojhglkilodaa.Zk
open Go Go.RowKit Go.IntWalk Go.Proofs
set_option linter.unusedVariables false
set_option linter.unusedSimpArgs false
set_option maxRecDepth 100000
set_option maxHeartbeats 4000000
def cmp_isNaN_int64.f (k : Nat) (x0 : Int) : Option Bool := some (x0 != x0)
theorem cmp_isNaN_int64.calls {k : Nat} {x0 : Int}  {w : World}  {r : Bool} (H : cmp_isNaN_int64.f k x0 = some r) :
    Calls Try.prog 179 ([.int .i64 x0] : List Value).toArray w (fun e w_ => ∃ v, e = .returned v ∧ v = (.bool r) ∧ Mem w [] w_ []) := by
  have HM := Mem.start w
  refine calls_run (N := 6) Try.func179 rfl rfl rfl rfl ?_
  unfold cmp_isNaN_int64.f at H
  refine run_seq ?_
  refine run_region rfl ?_
  refine ops_ex rfl (guard_none rfl) rfl rfl (ex_assign rfl rfl) ?_
  refine ops_nil ?_
  refine at_then ?_
  refine run_seq ?_
  refine run_region rfl ?_
  refine ops_ex rfl (guard_none rfl) rfl rfl (ex_move rfl rfl) ?_
  refine ops_ex rfl (guard_none rfl) rfl rfl (ex_move rfl rfl) ?_
  refine ops_ex rfl (guard_none rfl) rfl rfl (ex_neq rfl rfl rfl) ?_
  refine ops_ex rfl (guard_none rfl) rfl rfl (ex_assign rfl rfl) ?_
  refine ops_nil ?_
  refine at_then ?_
  refine run_ret ?_
  have hR := Option.some.inj H
  subst hR
  exact at_ret1 rfl rfl ⟨_, rfl, rfl, HM⟩

def cmp_Compare_int64.f (k : Nat) (x0 : Int) (x1 : Int) : Option Int := ((cmp_isNaN_int64.f k x0).bind fun t1869 => ((cmp_isNaN_int64.f k x1).bind fun t1872 => (bif t1869 then (bif t1872 then some 0 else some (-1)) else (bif t1872 then some 1 else (bif (decide (x0 < x1)) then some (-1) else (bif (decide (x1 < x0)) then some 1 else some 0))))))
theorem cmp_Compare_int64.calls {k : Nat} {x0 : Int} {x1 : Int}  {w : World}  {r : Int} (H : cmp_Compare_int64.f k x0 x1 = some r) :
    Calls Try.prog 162 ([.int .i64 x0, .int .i64 x1] : List Value).toArray w (fun e w_ => ∃ v, e = .returned v ∧ v = (.int .i64 r) ∧ Mem w [] w_ []) := by
  have HM := Mem.start w
  refine calls_run (N := 20) Try.func162 rfl rfl rfl rfl ?_
  unfold cmp_Compare_int64.f at H
  refine run_seq ?_
  refine run_region rfl ?_
  refine ops_ex rfl (guard_none rfl) rfl rfl (ex_assign rfl rfl) ?_
  refine ops_nil ?_
  refine at_then ?_
  refine run_seq ?_
  obtain ⟨t1869, h1870, H⟩ := bind_some H
  refine run_region rfl ?_
  refine ops_ex rfl (guard_none rfl) rfl rfl (ex_move rfl rfl) ?_
  refine ops_does rfl (guard_none rfl) rfl rfl (does_callk rfl callok179 rfl (cmp_isNaN_int64.calls (x0 := x0) h1870)) ?_
  rintro _ w1871 ⟨rfl, hn⟩
  replace HM : Mem w [] w1871 [] := HM.call hn
  refine ops_ex rfl (guard_none rfl) rfl rfl (ex_assign rfl rfl) ?_
  refine ops_nil ?_
  refine at_then ?_
  refine run_seq ?_
  obtain ⟨t1872, h1873, H⟩ := bind_some H
  refine run_region rfl ?_
  refine ops_ex rfl (guard_none rfl) rfl rfl (ex_move rfl rfl) ?_
  refine ops_does rfl (guard_none rfl) rfl rfl (does_callk rfl callok179 rfl (cmp_isNaN_int64.calls (x0 := x1) h1873)) ?_
  rintro _ w1874 ⟨rfl, hn⟩
  replace HM : Mem w [] w1874 [] := HM.call hn
  refine ops_ex rfl (guard_none rfl) rfl rfl (ex_assign rfl rfl) ?_
  refine ops_nil ?_
  refine at_then ?_
  refine run_seq ?_
  refine run_seq ?_
  refine run_region rfl ?_
  refine ops_ex rfl (guard_none rfl) rfl rfl (ex_move rfl rfl) ?_
  refine ops_nil ?_
  refine at_then ?_
  refine run_cond (b := t1869) rfl (fun hb1877 => ?_) (fun hb1877 => ?_)
  · replace H := cond_t hb1877 H
    refine run_seq ?_
    refine run_seq ?_
    refine run_region rfl ?_
    refine ops_ex rfl (guard_none rfl) rfl rfl (ex_move rfl rfl) ?_
    refine ops_nil ?_
    refine at_then ?_
    refine run_cond (b := t1872) rfl (fun hb1878 => ?_) (fun hb1878 => ?_)
    · replace H := cond_t hb1878 H
      refine run_seq ?_
      refine run_region rfl ?_
      refine ops_ex rfl (guard_none rfl) rfl rfl (ex_assign rfl rfl) ?_
      refine ops_nil ?_
      refine at_then ?_
      refine run_ret ?_
      refine at_then_ret ?_
      refine at_then_ret ?_
      have hR := Option.some.inj H
      subst hR
      exact at_ret1 rfl rfl ⟨_, rfl, rfl, HM⟩
    · replace H := cond_f hb1878 H
      refine run_skip ?_
      refine at_then ?_
      refine run_seq ?_
      refine run_region rfl ?_
      refine ops_ex rfl (guard_none rfl) rfl rfl (ex_assign rfl rfl) ?_
      refine ops_nil ?_
      refine at_then ?_
      refine run_ret ?_
      refine at_then_ret ?_
      have hR := Option.some.inj H
      subst hR
      exact at_ret1 rfl rfl ⟨_, rfl, rfl, HM⟩
  · replace H := cond_f hb1877 H
    refine run_skip ?_
    refine at_then ?_
    refine run_seq ?_
    refine run_seq ?_
    refine run_region rfl ?_
    refine ops_ex rfl (guard_none rfl) rfl rfl (ex_move rfl rfl) ?_
    refine ops_nil ?_
    refine at_then ?_
    refine run_cond (b := t1872) rfl (fun hb1880 => ?_) (fun hb1880 => ?_)
    · replace H := cond_t hb1880 H
      refine run_seq ?_
      refine run_region rfl ?_
      refine ops_ex rfl (guard_none rfl) rfl rfl (ex_assign rfl rfl) ?_
      refine ops_nil ?_
      refine at_then ?_
      refine run_ret ?_
      refine at_then_ret ?_
      have hR := Option.some.inj H
      subst hR
      exact at_ret1 rfl rfl ⟨_, rfl, rfl, HM⟩
    · replace H := cond_f hb1880 H
      refine run_skip ?_
      refine at_then ?_
      refine run_seq ?_
      refine run_seq ?_
      refine run_region rfl ?_
      refine ops_ex rfl (guard_none rfl) rfl rfl (ex_move rfl rfl) ?_
      refine ops_ex rfl (guard_none rfl) rfl rfl (ex_move rfl rfl) ?_
      refine ops_ex rfl (guard_none rfl) rfl rfl (ex_lss rfl rfl rfl) ?_
      refine ops_nil ?_
      refine at_then ?_
      refine run_cond (b := (decide (x0 < x1))) rfl (fun hb1882 => ?_) (fun hb1882 => ?_)
      · replace H := cond_t hb1882 H
        refine run_seq ?_
        refine run_region rfl ?_
        refine ops_ex rfl (guard_none rfl) rfl rfl (ex_assign rfl rfl) ?_
        refine ops_nil ?_
        refine at_then ?_
        refine run_ret ?_
        refine at_then_ret ?_
        have hR := Option.some.inj H
        subst hR
        exact at_ret1 rfl rfl ⟨_, rfl, rfl, HM⟩
      · replace H := cond_f hb1882 H
        refine run_skip ?_
        refine at_then ?_
        refine run_seq ?_
        refine run_seq ?_
        refine run_region rfl ?_
        refine ops_ex rfl (guard_none rfl) rfl rfl (ex_move rfl rfl) ?_
        refine ops_ex rfl (guard_none rfl) rfl rfl (ex_move rfl rfl) ?_
        refine ops_ex rfl (guard_none rfl) rfl rfl (ex_gtr rfl rfl rfl) ?_
        refine ops_nil ?_
        refine at_then ?_
        refine run_cond (b := (decide (x1 < x0))) rfl (fun hb1883 => ?_) (fun hb1883 => ?_)
        · replace H := cond_t hb1883 H
          refine run_seq ?_
          refine run_region rfl ?_
          refine ops_ex rfl (guard_none rfl) rfl rfl (ex_assign rfl rfl) ?_
          refine ops_nil ?_
          refine at_then ?_
          refine run_ret ?_
          refine at_then_ret ?_
          have hR := Option.some.inj H
          subst hR
          exact at_ret1 rfl rfl ⟨_, rfl, rfl, HM⟩
        · replace H := cond_f hb1883 H
          refine run_skip ?_
          refine at_then ?_
          refine run_seq ?_
          refine run_region rfl ?_
          refine ops_ex rfl (guard_none rfl) rfl rfl (ex_assign rfl rfl) ?_
          refine ops_nil ?_
          refine at_then ?_
          refine run_ret ?_
          have hR := Option.some.inj H
          subst hR
          exact at_ret1 rfl rfl ⟨_, rfl, rfl, HM⟩

def cmp_Or_int.l0 (x0 : List Int) : Nat → Int → Option (Int ⊕ Unit)
  | 0, _ => none
  | k + 1, a1925 => (bif (decide (a1925 < (x0.length : Int))) then (chk (idxOk a1925 x0.length) (bif ((gt x0 a1925) != 0) then some (.inl (gt x0 a1925)) else cmp_Or_int.l0 x0 k (wrap64 (a1925 + 1)))) else some (.inr ()))
theorem cmp_Or_int.l0_z (x0 : List Int) (a1925 : Int) : cmp_Or_int.l0 x0 0 a1925 = none := rfl
theorem cmp_Or_int.l0_s (x0 : List Int) (k : Nat) (a1925 : Int) : cmp_Or_int.l0 x0 (k + 1) a1925 = (bif (decide (a1925 < (x0.length : Int))) then (chk (idxOk a1925 x0.length) (bif ((gt x0 a1925) != 0) then some (.inl (gt x0 a1925)) else cmp_Or_int.l0 x0 k (wrap64 (a1925 + 1)))) else some (.inr ())) := rfl
def cmp_Or_int.f (k : Nat) (x0 : List Int) : Option Int := ((cmp_Or_int.l0 x0 k 0).bind fun o1919 => thn o1919 (fun r => some r) (fun _ => some 0))
theorem cmp_Or_int.calls {k : Nat} {x0 : List Int} {p0 : Value} {w : World} (hp0 : RdS kInt w p0 x0) {r : Int} (H : cmp_Or_int.f k x0 = some r) :
    Calls Try.prog 161 ([p0] : List Value).toArray w (fun e w_ => ∃ v, e = .returned v ∧ v = (.int .i64 r) ∧ Mem w [] w_ []) := by
  have HM := Mem.start w
  refine calls_run (N := 18) Try.func161 rfl rfl rfl rfl ?_
  unfold cmp_Or_int.f at H
  refine run_seq ?_
  refine run_region rfl ?_
  refine ops_ex rfl (guard_none rfl) rfl rfl (ex_assign rfl rfl) ?_
  refine ops_nil ?_
  refine at_then ?_
  refine run_seq ?_
  refine run_region rfl ?_
  refine ops_ex rfl (guard_none rfl) rfl rfl (ex_assign rfl rfl) ?_
  refine ops_nil ?_
  refine at_then ?_
  obtain ⟨o1919, ho1920, H⟩ := bind_some H
  refine run_mid (fun ρ_ w_ => Sum.inr () = o1919 ∧ ρ_ = [(3, .int .i64 0)] ∧ Mem w [] w_ []) ?_ ?_
  · skip
    refine run_seq ?_
    refine run_region rfl ?_
    refine ops_ex rfl (guard_none rfl) rfl rfl (ex_move rfl rfl) ?_
    refine ops_ex rfl (guard_none rfl) rfl rfl (ex_len (d := kInt) (xs := x0) rfl rfl Try.underlying215 hp0) ?_
    refine ops_ex rfl (guard_none rfl) rfl rfl (ex_move rfl rfl) ?_
    refine ops_nil ?_
    refine at_then ?_
    refine run_block ?_
    refine run_loop (fun k_ ρ_ w_ => ∃ a1925 : Int, cmp_Or_int.l0 x0 k_ a1925 = some o1919 ∧ ρ_ = [(3, .int .i64 0), (6, p0), (7, .int .i64 (x0.length : Int)), (8, .int .i64 a1925)] ∧ Mem w [] w_ []) k (ρ1 := [(3, .int .i64 0), (6, p0), (7, .int .i64 (x0.length : Int)), (8, .int .i64 0)]) ⟨_, ho1920, rfl, HM⟩ (Sub.cons rfl (Sub.cons rfl (Sub.cons rfl (Sub.cons rfl Sub.nil)))) ?_
    clear HM ho1920
    rintro k1930 _ w1931 ⟨a1925, ho1920, rfl, HM⟩
    obtain _ | k1930 := k1930
    · exact nomatch ((cmp_Or_int.l0_z x0 a1925).symm.trans ho1920)
    replace ho1920 := (cmp_Or_int.l0_s x0 k1930 a1925).symm.trans ho1920
    refine run_seq ?_
    refine run_region rfl ?_
    refine ops_ex rfl (guard_none rfl) rfl rfl (ex_lss rfl rfl rfl) ?_
    refine ops_nil ?_
    refine at_then ?_
    refine run_seq ?_
    refine run_cond (b := (decide (a1925 < (x0.length : Int)))) rfl (fun hb1932 => ?_) (fun hb1932 => ?_)
    · replace ho1920 := cond_t hb1932 ho1920
      refine run_skip ?_
      refine at_then ?_
      refine run_seq ?_
      refine run_block ?_
      refine run_seq ?_
      obtain ⟨e1933, ho1920⟩ := chk_some ho1920
      refine run_region rfl ?_
      have hc1934 : CellsAt _ (sb p0) (so p0 + (a1925).toNat * 1) [(.int .i64 (gt x0 a1925))] := rd_plain hp0 e1933
      refine ops_ex rfl (guard_none rfl) rfl rfl (ex_indexAddr (d := kInt) rfl rfl rfl Try.underlying215 tsz3 hp0 (idx_lo e1933) (idx_hi e1933)) ?_
      refine ops_ex rfl (guard_none rfl) rfl rfl (ex_load1 rfl rfl Try.underlying3 rfl ((HM.at_ hc1934) 0 _ rfl)) ?_
      refine ops_ex rfl (guard_none rfl) rfl rfl (ex_assign rfl rfl) ?_
      refine ops_nil ?_
      refine at_then ?_
      refine run_seq ?_
      refine run_region rfl ?_
      refine ops_ex rfl (guard_none rfl) rfl rfl (ex_move rfl rfl) ?_
      refine ops_ex rfl (guard_none rfl) rfl rfl (ex_move rfl rfl) ?_
      refine ops_ex rfl (guard_none rfl) rfl rfl (ex_neq rfl rfl rfl) ?_
      refine ops_nil ?_
      refine at_then ?_
      refine run_cond (b := ((gt x0 a1925) != 0)) rfl (fun hb1935 => ?_) (fun hb1935 => ?_)
      · replace ho1920 := cond_t hb1935 ho1920
        refine run_seq ?_
        refine run_region rfl ?_
        refine ops_ex rfl (guard_none rfl) rfl rfl (ex_move rfl rfl) ?_
        refine ops_ex rfl (guard_none rfl) rfl rfl (ex_assign rfl rfl) ?_
        refine ops_nil ?_
        refine at_then ?_
        refine run_ret ?_
        refine at_block_ret ?_
        refine at_then_ret ?_
        refine at_then_ret ?_
        refine at_block_ret ?_
        refine at_then_ret ?_
        have hR := Option.some.inj ho1920
        subst hR
        have hT := thn_inl H
        have hR := Option.some.inj hT
        subst hR
        exact at_ret1 rfl rfl ⟨_, rfl, rfl, HM⟩
      · replace ho1920 := cond_f hb1935 ho1920
        refine run_skip ?_
        refine at_block ?_
        refine at_then ?_
        refine run_region rfl ?_
        refine ops_ex rfl (guard_none rfl) rfl rfl (ex_add rfl rfl rfl) ?_
        refine ops_ex rfl (guard_none rfl) rfl rfl (ex_move rfl rfl) ?_
        refine ops_nil ?_
        exact at_again k1930 (ρ1 := [(3, .int .i64 0), (6, p0), (7, .int .i64 (x0.length : Int)), (8, .int .i64 (wrap64 (a1925 + 1)))]) (Nat.lt_succ_self _) ⟨_, ho1920, rfl, HM⟩ (Sub.cons rfl (Sub.cons rfl (Sub.cons rfl (Sub.cons rfl Sub.nil))))
    · replace ho1920 := cond_f hb1932 ho1920
      refine run_exit ?_
      refine at_then_exit ?_
      refine at_then_exit ?_
      refine at_block_exit ?_
      exact at_mid (ρ' := [(3, .int .i64 0)]) ⟨(Option.some.inj ho1920), rfl, HM⟩ (Sub.cons rfl Sub.nil)
  · rintro _ w1936 ⟨rfl, rfl, HM⟩
    replace H := (thn_inr H)
    refine run_seq ?_
    refine run_region rfl ?_
    refine ops_ex rfl (guard_none rfl) rfl rfl (ex_move rfl rfl) ?_
    refine ops_ex rfl (guard_none rfl) rfl rfl (ex_assign rfl rfl) ?_
    refine ops_nil ?_
    refine at_then ?_
    refine run_ret ?_
    have hR := Option.some.inj H
    subst hR
    exact at_ret1 rfl rfl ⟨_, rfl, rfl, HM⟩

def impl_compareRefs.f (k : Nat) (x0 : Ref) (x1 : Ref) : Option Int := ((cmp_Compare_int64.f k x0.fTx x1.fTx).bind fun t1947 => ((cmp_Compare_int64.f k x0.fAt x1.fAt).bind fun t1949 => ((cmp_Or_int.f k ([t1947, t1949] : List Int)).bind fun t1954 => some t1954)))
theorem impl_compareRefs.calls {k : Nat} {x0 : Ref} {x1 : Ref}  {w : World}  {r : Int} (H : impl_compareRefs.f k x0 x1 = some r) :
    Calls Try.prog 126 ([.agg #[(.int .i64 x0.fTx), (.int .i64 x0.fAt)], .agg #[(.int .i64 x1.fTx), (.int .i64 x1.fAt)]] : List Value).toArray w (fun e w_ => ∃ v, e = .returned v ∧ v = (.int .i64 r) ∧ Mem w [] w_ []) := by
  have HM := Mem.start w
  refine calls_run (N := 17) Try.func126 rfl rfl rfl rfl ?_
  unfold impl_compareRefs.f at H
  refine run_seq ?_
  refine run_region rfl ?_
  refine ops_does rfl (guard_none rfl) rfl rfl (does_box (cs := [.int .i64 x0.fTx, .int .i64 x0.fAt]) rfl rfl rfl HM) ?_
  rintro _ w1945 ⟨b1939, rfl, HM⟩
  refine ops_does rfl (guard_none rfl) rfl rfl (does_box (cs := [.int .i64 x1.fTx, .int .i64 x1.fAt]) rfl rfl rfl HM) ?_
  rintro _ w1946 ⟨b1942, rfl, HM⟩
  refine ops_ex rfl (guard_none rfl) rfl rfl (ex_assign rfl rfl) ?_
  refine ops_nil ?_
  refine at_then ?_
  refine run_seq ?_
  obtain ⟨t1947, h1948, H⟩ := bind_some H
  obtain ⟨t1949, h1950, H⟩ := bind_some H
  obtain ⟨t1954, h1955, H⟩ := bind_some H
  refine run_drawf (fun w_ => Mem w [] w_ [box b1942 54 [.int .i64 x1.fTx, .int .i64 x1.fAt], box b1939 54 [.int .i64 x0.fTx, .int .i64 x0.fAt]]) [(0, true), (1, true), (2, true), (3, true), (5, true), (6, true), (7, true), (8, true), (4, false), (9, false), (10, false), (11, false), (12, true)] mixed rfl rfl (by kernel_rfl) ?_
  replace HM := HM.grow (fr_drew _)
  have hS := Mem.suf (M := []) HM
  refine drwp_take rfl (guard_none rfl) rfl rfl (fun w_ hS_ => (ex_fieldAddr (off' := 0) rfl rfl Try.underlying54 rfl tsz2 rfl)) hS ?_
  refine drwp_take rfl (guard_none rfl) rfl rfl (fun w_ hS_ => (ex_load1 rfl rfl Try.underlying2 rfl ((hS_.box_at 1 rfl) 0 _ rfl))) hS ?_
  refine drwp_take rfl (guard_none rfl) rfl rfl (fun w_ hS_ => (ex_fieldAddr (off' := 0) rfl rfl Try.underlying54 rfl tsz2 rfl)) hS ?_
  refine drwp_take rfl (guard_none rfl) rfl rfl (fun w_ hS_ => (ex_load1 rfl rfl Try.underlying2 rfl ((hS_.box_at 0 rfl) 0 _ rfl))) hS ?_
  refine drwp_take rfl (guard_none rfl) rfl rfl (fun w_ hS_ => (ex_fieldAddr (off' := 1) rfl rfl Try.underlying54 rfl tsz2 rfl)) hS ?_
  refine drwp_take rfl (guard_none rfl) rfl rfl (fun w_ hS_ => (ex_load1 rfl rfl Try.underlying2 rfl ((hS_.box_at 1 rfl) 1 _ rfl))) hS ?_
  refine drwp_take rfl (guard_none rfl) rfl rfl (fun w_ hS_ => (ex_fieldAddr (off' := 1) rfl rfl Try.underlying54 rfl tsz2 rfl)) hS ?_
  refine drwp_take rfl (guard_none rfl) rfl rfl (fun w_ hS_ => (ex_load1 rfl rfl Try.underlying2 rfl ((hS_.box_at 0 rfl) 1 _ rfl))) hS ?_
  refine drwp_one rfl (guard_none rfl) rfl rfl (does_callk rfl callok162 rfl (cmp_Compare_int64.calls (x0 := x0.fTx) (x1 := x1.fTx) h1948)) ?_
  rintro _ w1956 ⟨rfl, hn⟩
  replace HM : Mem w [] w1956 [box b1942 54 [.int .i64 x1.fTx, .int .i64 x1.fAt], box b1939 54 [.int .i64 x0.fTx, .int .i64 x0.fAt]] := HM.call hn
  refine ⟨Mem.suf (M := []) HM, ?_⟩
  have hS := Mem.suf (M := []) HM
  refine drwp_one rfl (guard_none rfl) rfl rfl (does_callk rfl callok162 rfl (cmp_Compare_int64.calls (x0 := x0.fAt) (x1 := x1.fAt) h1950)) ?_
  rintro _ w1957 ⟨rfl, hn⟩
  replace HM : Mem w [] w1957 [box b1942 54 [.int .i64 x1.fTx, .int .i64 x1.fAt], box b1939 54 [.int .i64 x0.fTx, .int .i64 x0.fAt]] := HM.call hn
  refine ⟨Mem.suf (M := []) HM, ?_⟩
  have hS := Mem.suf (M := []) HM
  refine drwp_one rfl (guard_none rfl) rfl rfl (does_lit (e := 3) (cs := [.int .i64 t1947, .int .i64 t1949]) (xs := ([t1947, t1949] : List Int)) kInt rfl rfl (fun _ => by kernel_rfl) rfl rfl (fun _ _ h => by have h' : _ = [] := h; subst h'; exact (Elems.cons (d := kInt) (f := []) ⟨rfl, rfl⟩ (Elems.cons (d := kInt) (f := []) ⟨rfl, rfl⟩ .nil))) HM.emp) ?_
  rintro v1951 w1958 HM
  refine ⟨Mem.suf (M := [own kInt 3 v1951 ([t1947, t1949] : List Int)]) HM, ?_⟩
  have hS := Mem.suf (M := [own kInt 3 v1951 ([t1947, t1949] : List Int)]) HM
  refine drwp_one rfl (guard_none rfl) rfl rfl (does_callk rfl callok161 rfl (cmp_Or_int.calls (x0 := ([t1947, t1949] : List Int)) (HM.own_rd 0 rfl) h1955)) ?_
  rintro _ w1959 ⟨rfl, hn⟩
  replace HM : Mem w [] w1959 [own kInt 3 v1951 ([t1947, t1949] : List Int), box b1942 54 [.int .i64 x1.fTx, .int .i64 x1.fAt], box b1939 54 [.int .i64 x0.fTx, .int .i64 x0.fAt]] := HM.call hn
  refine ⟨Mem.suf (M := [own kInt 3 v1951 ([t1947, t1949] : List Int)]) HM, ?_⟩
  have hS := Mem.suf (M := [own kInt 3 v1951 ([t1947, t1949] : List Int)]) HM
  refine drwp_take rfl (guard_none rfl) rfl rfl (fun w_ hS_ => (ex_assign rfl rfl)) hS ?_
  refine drwp_done ?_
  refine at_then ?_
  refine run_ret ?_
  replace HM := (HM.front 0 rfl rfl).drop
  replace HM := (HM.front 0 rfl rfl).drop
  replace HM := (HM.front 0 rfl rfl).drop
  have hR := Option.some.inj H
  subst hR
  exact at_ret1 rfl rfl ⟨_, rfl, rfl, HM⟩

def impl_CoinsFault.l0 (x0 : List Coin) : Nat → Int → Option (Int ⊕ Unit)
  | 0, _ => none
  | k + 1, a2181 => (bif (decide (a2181 < (x0.length : Int))) then (chk (idxOk a2181 x0.length) ((impl_isRef.f k ((gt x0 a2181).fRef)).bind fun t2236 => ((bif (!(!t2236)) then impl_isHeight.f k ((gt x0 a2181).fHeight) else some default).bind fun t2238 => ((bif (!((!t2236) || (!t2238))) then impl_within.f k ((gt x0 a2181).fOut.fValue) 1 1000000 else some default).bind fun t2240 => (bif (((!t2236) || (!t2238)) || (!t2240)) then some (.inl 3) else ((impl_RuleFault.f k ((gt x0 a2181).fOut.fRule)).bind fun t2255 => (bif (t2255 != 0) then some (.inl t2255) else (chk (!(decide (0 < a2181)) || (idxOk (wrap64 (a2181 - 1)) x0.length)) ((bif (decide (0 < a2181)) then impl_compareRefs.f k ((gt x0 (wrap64 (a2181 - 1))).fRef) ((gt x0 a2181).fRef) else some default).bind fun t2263 => (bif ((decide (0 < a2181)) && (decide (0 ≤ t2263))) then some (.inl 1) else impl_CoinsFault.l0 x0 k (wrap64 (a2181 + 1)))))))))))) else some (.inr ()))
theorem impl_CoinsFault.l0_z (x0 : List Coin) (a2181 : Int) : impl_CoinsFault.l0 x0 0 a2181 = none := rfl
theorem impl_CoinsFault.l0_s (x0 : List Coin) (k : Nat) (a2181 : Int) : impl_CoinsFault.l0 x0 (k + 1) a2181 = (bif (decide (a2181 < (x0.length : Int))) then (chk (idxOk a2181 x0.length) ((impl_isRef.f k ((gt x0 a2181).fRef)).bind fun t2236 => ((bif (!(!t2236)) then impl_isHeight.f k ((gt x0 a2181).fHeight) else some default).bind fun t2238 => ((bif (!((!t2236) || (!t2238))) then impl_within.f k ((gt x0 a2181).fOut.fValue) 1 1000000 else some default).bind fun t2240 => (bif (((!t2236) || (!t2238)) || (!t2240)) then some (.inl 3) else ((impl_RuleFault.f k ((gt x0 a2181).fOut.fRule)).bind fun t2255 => (bif (t2255 != 0) then some (.inl t2255) else (chk (!(decide (0 < a2181)) || (idxOk (wrap64 (a2181 - 1)) x0.length)) ((bif (decide (0 < a2181)) then impl_compareRefs.f k ((gt x0 (wrap64 (a2181 - 1))).fRef) ((gt x0 a2181).fRef) else some default).bind fun t2263 => (bif ((decide (0 < a2181)) && (decide (0 ≤ t2263))) then some (.inl 1) else impl_CoinsFault.l0 x0 k (wrap64 (a2181 + 1)))))))))))) else some (.inr ())) := rfl
def impl_CoinsFault.f (k : Nat) (x0 : List Coin) : Option Int := (bif (decide (40 < (x0.length : Int))) then some 2 else ((impl_CoinsFault.l0 x0 k 0).bind fun o2144 => thn o2144 (fun r => some r) (fun _ => some 0)))
theorem impl_CoinsFault.calls {k : Nat} {x0 : List Coin} {p0 : Value} {w : World} (hp0 : RdS kCoin w p0 x0) {r : Int} (H : impl_CoinsFault.f k x0 = some r) :
    Calls Try.prog 76 ([p0] : List Value).toArray w (fun e w_ => ∃ v, e = .returned v ∧ v = (.int .i64 r) ∧ Mem w [] w_ []) := by
  have HM := Mem.start w
  refine calls_run (N := 55) Try.func76 rfl rfl rfl rfl ?_
  unfold impl_CoinsFault.f at H
  refine run_seq ?_
  refine run_region rfl ?_
  refine ops_ex rfl (guard_none rfl) rfl rfl (ex_assign rfl rfl) ?_
  refine ops_nil ?_
  refine at_then ?_
  refine run_seq ?_
  refine run_seq ?_
  refine run_region rfl ?_
  refine ops_ex rfl (guard_none rfl) rfl rfl (ex_move rfl rfl) ?_
  refine ops_ex rfl (guard_none rfl) rfl rfl (ex_len (d := kCoin) (xs := x0) rfl rfl Try.underlying44 hp0) ?_
  refine ops_ex rfl (guard_none rfl) rfl rfl (ex_gtr rfl rfl rfl) ?_
  refine ops_nil ?_
  refine at_then ?_
  refine run_cond (b := (decide (40 < (x0.length : Int)))) rfl (fun hb2037 => ?_) (fun hb2037 => ?_)
  · replace H := cond_t hb2037 H
    refine run_seq ?_
    refine run_region rfl ?_
    refine ops_ex rfl (guard_none rfl) rfl rfl (ex_assign rfl rfl) ?_
    refine ops_nil ?_
    refine at_then ?_
    refine run_ret ?_
    refine at_then_ret ?_
    have hR := Option.some.inj H
    subst hR
    exact at_ret1 rfl rfl ⟨_, rfl, rfl, HM⟩
  · replace H := cond_f hb2037 H
    refine run_skip ?_
    refine at_then ?_
    obtain ⟨o2144, ho2145, H⟩ := bind_some H
    refine run_mid (fun ρ_ w_ => Sum.inr () = o2144 ∧ ρ_ = [] ∧ Mem w [] w_ []) ?_ ?_
    · skip
      refine run_seq ?_
      refine run_region rfl ?_
      refine ops_ex rfl (guard_none rfl) rfl rfl (ex_move rfl rfl) ?_
      refine ops_ex rfl (guard_none rfl) rfl rfl (ex_len (d := kCoin) (xs := x0) rfl rfl Try.underlying44 hp0) ?_
      refine ops_ex rfl (guard_none rfl) rfl rfl (ex_move rfl rfl) ?_
      refine ops_nil ?_
      refine at_then ?_
      refine run_block ?_
      refine run_loop (fun k_ ρ_ w_ => ∃ a2181 : Int, impl_CoinsFault.l0 x0 k_ a2181 = some o2144 ∧ ρ_ = [(0, p0), (9, p0), (10, .int .i64 (x0.length : Int)), (11, .int .i64 a2181)] ∧ Mem w [] w_ []) k (ρ1 := [(0, p0), (9, p0), (10, .int .i64 (x0.length : Int)), (11, .int .i64 0)]) ⟨_, ho2145, rfl, HM⟩ (Sub.cons rfl (Sub.cons rfl (Sub.cons rfl (Sub.cons rfl Sub.nil)))) ?_
      clear HM ho2145
      rintro k2217 _ w2218 ⟨a2181, ho2145, rfl, HM⟩
      obtain _ | k2217 := k2217
      · exact nomatch ((impl_CoinsFault.l0_z x0 a2181).symm.trans ho2145)
      replace ho2145 := (impl_CoinsFault.l0_s x0 k2217 a2181).symm.trans ho2145
      refine run_seq ?_
      refine run_region rfl ?_
      refine ops_ex rfl (guard_none rfl) rfl rfl (ex_lss rfl rfl rfl) ?_
      refine ops_nil ?_
      refine at_then ?_
      refine run_seq ?_
      refine run_cond (b := (decide (a2181 < (x0.length : Int)))) rfl (fun hb2219 => ?_) (fun hb2219 => ?_)
      · replace ho2145 := cond_t hb2219 ho2145
        refine run_skip ?_
        refine at_then ?_
        refine run_seq ?_
        refine run_block ?_
        refine run_seq ?_
        obtain ⟨e2220, ho2145⟩ := chk_some ho2145
        refine run_region rfl ?_
        refine ops_ex rfl (guard_none rfl) rfl rfl (ex_move rfl rfl) ?_
        obtain ⟨kv2222, hc2221, hk2223⟩ : ∃ u, CellsAt _ (sb p0) (so p0 + (a2181).toNat * 8) [(.int .i64 ((gt x0 a2181).fRef.fTx)), (.int .i64 ((gt x0 a2181).fRef.fAt)), (.int .i64 ((gt x0 a2181).fOut.fValue)), u, (.int .i64 ((gt x0 a2181).fOut.fRule.fNeed)), (.int .i64 ((gt x0 a2181).fOut.fRule.fAfter)), (.int .i64 ((gt x0 a2181).fHeight)), (.bool ((gt x0 a2181).fMined))] ∧ RdS kInt _ u ((gt x0 a2181).fOut.fRule.fKeys) := rd_with1 hp0 e2220
        refine ops_ex rfl (guard_none rfl) rfl rfl (ex_indexAddr (d := kCoin) rfl rfl rfl Try.underlying44 tsz123 hp0 (idx_lo e2220) (idx_hi e2220)) ?_
        refine ops_ex rfl (guard_none rfl) rfl rfl (ex_loadN (cs := [(.int .i64 ((gt x0 a2181).fRef.fTx)), (.int .i64 ((gt x0 a2181).fRef.fAt)), (.int .i64 ((gt x0 a2181).fOut.fValue)), kv2222, (.int .i64 ((gt x0 a2181).fOut.fRule.fNeed)), (.int .i64 ((gt x0 a2181).fOut.fRule.fAfter)), (.int .i64 ((gt x0 a2181).fHeight)), (.bool ((gt x0 a2181).fMined))]) rfl rfl Try.underlying123 rfl tsz123 rfl ((HM.at_ hc2221).sub 0 8 rfl)) ?_
        refine ops_does rfl (guard_none rfl) rfl rfl (does_alloc (cs := [.int .i64 0, .int .i64 0, .int .i64 0, .slice none 0 0, .int .i64 0, .int .i64 0, .int .i64 0, .bool false]) rfl tz123 rfl HM) ?_
        rintro _ w2227 ⟨b2224, rfl, HM⟩
        refine ops_ex rfl (guard_none rfl) rfl rfl (ex_assign rfl rfl) ?_
        refine ops_doesS rfl (guard_none rfl) rfl (does_store (vs := [.int .i64 ((gt x0 a2181).fRef.fTx), .int .i64 ((gt x0 a2181).fRef.fAt), .int .i64 ((gt x0 a2181).fOut.fValue), kv2222, .int .i64 ((gt x0 a2181).fOut.fRule.fNeed), .int .i64 ((gt x0 a2181).fOut.fRule.fAfter), .int .i64 ((gt x0 a2181).fHeight), .bool ((gt x0 a2181).fMined)]) (cs' := [.int .i64 ((gt x0 a2181).fRef.fTx), .int .i64 ((gt x0 a2181).fRef.fAt), .int .i64 ((gt x0 a2181).fOut.fValue), kv2222, .int .i64 ((gt x0 a2181).fOut.fRule.fNeed), .int .i64 ((gt x0 a2181).fOut.fRule.fAfter), .int .i64 ((gt x0 a2181).fHeight), .bool ((gt x0 a2181).fMined)]) rfl rfl rfl rfl tsz123 (Ones.int (Ones.int (Ones.int (Ones.rd hk2223 (Ones.int (Ones.int (Ones.int (Ones.bool Ones.nil)))))))) rfl rfl HM) ?_
        rintro w2228 HM
        refine ops_nil ?_
        refine at_then ?_
        refine run_seq ?_
        refine run_seq ?_
        obtain ⟨t2236, h2237, ho2145⟩ := bind_some ho2145
        obtain ⟨t2238, h2239, ho2145⟩ := bind_some ho2145
        obtain ⟨t2240, h2241, ho2145⟩ := bind_some ho2145
        refine run_meet (fun ρ_ w_ => ρ_ = [(0, p0), (9, p0), (10, .int .i64 (x0.length : Int)), (11, .int .i64 a2181), (4, .pointer (some ⟨b2224, 0, none⟩)), (3, .int .i64 a2181), (32, .bool (((!t2236) || (!t2238)) || (!t2240)))] ∧ Mem w [] w_ [box b2224 123 [.int .i64 ((gt x0 a2181).fRef.fTx), .int .i64 ((gt x0 a2181).fRef.fAt), .int .i64 ((gt x0 a2181).fOut.fValue), kv2222, .int .i64 ((gt x0 a2181).fOut.fRule.fNeed), .int .i64 ((gt x0 a2181).fOut.fRule.fAfter), .int .i64 ((gt x0 a2181).fHeight), .bool ((gt x0 a2181).fMined)]]) ?_ ?_
        · skip
          refine run_region rfl ?_
          refine ops_ex rfl (guard_none rfl) rfl rfl (ex_fieldAddr (off' := 0) rfl rfl Try.underlying123 rfl tsz54 rfl) ?_
          refine ops_ex rfl (guard_none rfl) rfl rfl (ex_loadN (cs := [(.int .i64 ((gt x0 a2181).fRef.fTx)), (.int .i64 ((gt x0 a2181).fRef.fAt))]) rfl rfl Try.underlying54 rfl tsz54 rfl ((HM.box_at 0 rfl).sub 0 2 rfl)) ?_
          refine ops_does rfl (guard_none rfl) rfl rfl (does_callk rfl callok123 rfl (impl_isRef.calls (x0 := (gt x0 a2181).fRef) h2237)) ?_
          rintro _ w2242 ⟨rfl, hn⟩
          replace HM : Mem w [] w2242 [box b2224 123 [.int .i64 ((gt x0 a2181).fRef.fTx), .int .i64 ((gt x0 a2181).fRef.fAt), .int .i64 ((gt x0 a2181).fOut.fValue), kv2222, .int .i64 ((gt x0 a2181).fOut.fRule.fNeed), .int .i64 ((gt x0 a2181).fOut.fRule.fAfter), .int .i64 ((gt x0 a2181).fHeight), .bool ((gt x0 a2181).fMined)]] := HM.call hn
          refine ops_ex rfl (guard_none rfl) rfl rfl (ex_not rfl rfl) ?_
          refine ops_ex rfl (guard_none rfl) rfl rfl (ex_move rfl rfl) ?_
          refine bool_cases (!t2236) (fun hg2243 => ?_) (fun hg2243 => ?_)
          · skip
            refine ops_off rfl (guard_off rfl rfl rfl hg2243) rfl rfl ?_
            refine ops_off rfl (guard_off rfl rfl rfl hg2243) rfl rfl ?_
            refine ops_off rfl (guard_off rfl rfl rfl hg2243) rfl rfl ?_
            refine ops_off rfl (guard_off rfl rfl rfl hg2243) rfl rfl ?_
            have hg2244 : ((!t2236) || (!t2238)) = true := by simp only [hg2243, Bool.and_true, Bool.true_and, Bool.and_false, Bool.false_and, Bool.or_true, Bool.true_or, Bool.or_false, Bool.false_or, Bool.not_true, Bool.not_false, Bool.not_not]
            refine ops_ex (v := .bool ((!t2236) || (!t2238))) rfl (guard_none rfl) rfl rfl (ex_por_t rfl rfl hg2243) ?_
            refine ops_ex rfl (guard_none rfl) rfl rfl (ex_move rfl rfl) ?_
            refine ops_off rfl (guard_off rfl rfl rfl hg2244) rfl rfl ?_
            refine ops_off rfl (guard_off rfl rfl rfl hg2244) rfl rfl ?_
            refine ops_off rfl (guard_off rfl rfl rfl hg2244) rfl rfl ?_
            refine ops_off rfl (guard_off rfl rfl rfl hg2244) rfl rfl ?_
            refine ops_off rfl (guard_off rfl rfl rfl hg2244) rfl rfl ?_
            have hg2245 : (((!t2236) || (!t2238)) || (!t2240)) = true := by simp only [hg2244, Bool.and_true, Bool.true_and, Bool.and_false, Bool.false_and, Bool.or_true, Bool.true_or, Bool.or_false, Bool.false_or, Bool.not_true, Bool.not_false, Bool.not_not]
            refine ops_ex (v := .bool (((!t2236) || (!t2238)) || (!t2240))) rfl (guard_none rfl) rfl rfl (ex_por_t rfl rfl hg2244) ?_
            refine ops_nil ?_
            exact at_meet [(0, p0), (9, p0), (10, .int .i64 (x0.length : Int)), (11, .int .i64 a2181), (4, .pointer (some ⟨b2224, 0, none⟩)), (3, .int .i64 a2181), (32, .bool (((!t2236) || (!t2238)) || (!t2240)))] ⟨rfl, HM⟩ (Sub.cons rfl (Sub.cons rfl (Sub.cons rfl (Sub.cons rfl (Sub.cons rfl (Sub.cons rfl (Sub.cons rfl Sub.nil)))))))
          · skip
            refine ops_ex rfl (guard_on rfl rfl rfl hg2243) rfl rfl (ex_fieldAddr (off' := 6) rfl rfl Try.underlying123 rfl tsz2 rfl) ?_
            refine ops_ex rfl (guard_on rfl rfl rfl hg2243) rfl rfl (ex_load1 rfl rfl Try.underlying2 rfl ((HM.box_at 0 rfl) 6 _ rfl)) ?_
            refine ops_does rfl (guard_on rfl rfl rfl hg2243) rfl rfl (does_callk rfl callok124 rfl (impl_isHeight.calls (x0 := (gt x0 a2181).fHeight) (cond_t (not_mk hg2243) h2239))) ?_
            rintro _ w2246 ⟨rfl, hn⟩
            replace HM : Mem w [] w2246 [box b2224 123 [.int .i64 ((gt x0 a2181).fRef.fTx), .int .i64 ((gt x0 a2181).fRef.fAt), .int .i64 ((gt x0 a2181).fOut.fValue), kv2222, .int .i64 ((gt x0 a2181).fOut.fRule.fNeed), .int .i64 ((gt x0 a2181).fOut.fRule.fAfter), .int .i64 ((gt x0 a2181).fHeight), .bool ((gt x0 a2181).fMined)]] := HM.call hn
            refine ops_ex rfl (guard_on rfl rfl rfl hg2243) rfl rfl (ex_not rfl rfl) ?_
            refine ops_ex (v := .bool ((!t2236) || (!t2238))) rfl (guard_none rfl) rfl rfl (ex_por_f rfl rfl hg2243 rfl) ?_
            refine ops_ex rfl (guard_none rfl) rfl rfl (ex_move rfl rfl) ?_
            refine bool_cases ((!t2236) || (!t2238)) (fun hg2247 => ?_) (fun hg2247 => ?_)
            · skip
              refine ops_off rfl (guard_off rfl rfl rfl hg2247) rfl rfl ?_
              refine ops_off rfl (guard_off rfl rfl rfl hg2247) rfl rfl ?_
              refine ops_off rfl (guard_off rfl rfl rfl hg2247) rfl rfl ?_
              refine ops_off rfl (guard_off rfl rfl rfl hg2247) rfl rfl ?_
              refine ops_off rfl (guard_off rfl rfl rfl hg2247) rfl rfl ?_
              have hg2248 : (((!t2236) || (!t2238)) || (!t2240)) = true := by simp only [hg2247, Bool.and_true, Bool.true_and, Bool.and_false, Bool.false_and, Bool.or_true, Bool.true_or, Bool.or_false, Bool.false_or, Bool.not_true, Bool.not_false, Bool.not_not]
              refine ops_ex (v := .bool (((!t2236) || (!t2238)) || (!t2240))) rfl (guard_none rfl) rfl rfl (ex_por_t rfl rfl hg2247) ?_
              refine ops_nil ?_
              exact at_meet [(0, p0), (9, p0), (10, .int .i64 (x0.length : Int)), (11, .int .i64 a2181), (4, .pointer (some ⟨b2224, 0, none⟩)), (3, .int .i64 a2181), (32, .bool (((!t2236) || (!t2238)) || (!t2240)))] ⟨rfl, HM⟩ (Sub.cons rfl (Sub.cons rfl (Sub.cons rfl (Sub.cons rfl (Sub.cons rfl (Sub.cons rfl (Sub.cons rfl Sub.nil)))))))
            · skip
              refine ops_ex rfl (guard_on rfl rfl rfl hg2247) rfl rfl (ex_fieldAddr (off' := 2) rfl rfl Try.underlying123 rfl tsz121 rfl) ?_
              refine ops_ex rfl (guard_on rfl rfl rfl hg2247) rfl rfl (ex_fieldAddr (off' := 2) rfl rfl Try.underlying121 rfl tsz2 rfl) ?_
              refine ops_ex rfl (guard_on rfl rfl rfl hg2247) rfl rfl (ex_load1 rfl rfl Try.underlying2 rfl ((HM.box_at 0 rfl) 2 _ rfl)) ?_
              refine ops_does rfl (guard_on rfl rfl rfl hg2247) rfl rfl (does_callk rfl callok112 rfl (impl_within.calls (x0 := (gt x0 a2181).fOut.fValue) (x1 := 1) (x2 := 1000000) (cond_t (not_mk hg2247) h2241))) ?_
              rintro _ w2249 ⟨rfl, hn⟩
              replace HM : Mem w [] w2249 [box b2224 123 [.int .i64 ((gt x0 a2181).fRef.fTx), .int .i64 ((gt x0 a2181).fRef.fAt), .int .i64 ((gt x0 a2181).fOut.fValue), kv2222, .int .i64 ((gt x0 a2181).fOut.fRule.fNeed), .int .i64 ((gt x0 a2181).fOut.fRule.fAfter), .int .i64 ((gt x0 a2181).fHeight), .bool ((gt x0 a2181).fMined)]] := HM.call hn
              refine ops_ex rfl (guard_on rfl rfl rfl hg2247) rfl rfl (ex_not rfl rfl) ?_
              refine ops_ex (v := .bool (((!t2236) || (!t2238)) || (!t2240))) rfl (guard_none rfl) rfl rfl (ex_por_f rfl rfl hg2247 rfl) ?_
              refine ops_nil ?_
              exact at_meet [(0, p0), (9, p0), (10, .int .i64 (x0.length : Int)), (11, .int .i64 a2181), (4, .pointer (some ⟨b2224, 0, none⟩)), (3, .int .i64 a2181), (32, .bool (((!t2236) || (!t2238)) || (!t2240)))] ⟨rfl, HM⟩ (Sub.cons rfl (Sub.cons rfl (Sub.cons rfl (Sub.cons rfl (Sub.cons rfl (Sub.cons rfl (Sub.cons rfl Sub.nil)))))))
        · rintro _ w2250 ⟨rfl, HM⟩
          refine at_then ?_
          refine run_cond (b := (((!t2236) || (!t2238)) || (!t2240))) rfl (fun hb2251 => ?_) (fun hb2251 => ?_)
          · replace ho2145 := cond_t hb2251 ho2145
            refine run_seq ?_
            refine run_region rfl ?_
            refine ops_ex rfl (guard_none rfl) rfl rfl (ex_assign rfl rfl) ?_
            refine ops_nil ?_
            refine at_then ?_
            refine run_ret ?_
            refine at_then_ret ?_
            refine at_block_ret ?_
            refine at_then_ret ?_
            refine at_then_ret ?_
            refine at_block_ret ?_
            refine at_then_ret ?_
            replace HM := (HM.front 0 rfl rfl).drop
            have hR := Option.some.inj ho2145
            subst hR
            have hT := thn_inl H
            have hR := Option.some.inj hT
            subst hR
            exact at_ret1 rfl rfl ⟨_, rfl, rfl, HM⟩
          · replace ho2145 := cond_f hb2251 ho2145
            refine run_skip ?_
            refine at_then ?_
            refine run_seq ?_
            refine run_seq ?_
            obtain ⟨t2255, h2256, ho2145⟩ := bind_some ho2145
            refine run_region rfl ?_
            refine ops_ex rfl (guard_none rfl) rfl rfl (ex_fieldAddr (off' := 2) rfl rfl Try.underlying123 rfl tsz121 rfl) ?_
            refine ops_ex rfl (guard_none rfl) rfl rfl (ex_fieldAddr (off' := 3) rfl rfl Try.underlying121 rfl tsz119 rfl) ?_
            refine ops_ex rfl (guard_none rfl) rfl rfl (ex_loadN (cs := [kv2222, (.int .i64 ((gt x0 a2181).fOut.fRule.fNeed)), (.int .i64 ((gt x0 a2181).fOut.fRule.fAfter))]) rfl rfl Try.underlying119 rfl tsz119 rfl ((HM.box_at 0 rfl).sub 3 3 rfl)) ?_
            refine ops_does rfl (guard_none rfl) rfl rfl (does_callk rfl callok125 rfl (impl_RuleFault.calls (x0 := (gt x0 a2181).fOut.fRule) (HM.rd hk2223) h2256)) ?_
            rintro _ w2257 ⟨rfl, hn⟩
            replace HM : Mem w [] w2257 [box b2224 123 [.int .i64 ((gt x0 a2181).fRef.fTx), .int .i64 ((gt x0 a2181).fRef.fAt), .int .i64 ((gt x0 a2181).fOut.fValue), kv2222, .int .i64 ((gt x0 a2181).fOut.fRule.fNeed), .int .i64 ((gt x0 a2181).fOut.fRule.fAfter), .int .i64 ((gt x0 a2181).fHeight), .bool ((gt x0 a2181).fMined)]] := HM.call hn
            refine ops_ex rfl (guard_none rfl) rfl rfl (ex_assign rfl rfl) ?_
            refine ops_nil ?_
            refine at_then ?_
            refine run_seq ?_
            refine run_region rfl ?_
            refine ops_ex rfl (guard_none rfl) rfl rfl (ex_move rfl rfl) ?_
            refine ops_ex rfl (guard_none rfl) rfl rfl (ex_neq rfl rfl rfl) ?_
            refine ops_nil ?_
            refine at_then ?_
            refine run_cond (b := (t2255 != 0)) rfl (fun hb2258 => ?_) (fun hb2258 => ?_)
            · replace ho2145 := cond_t hb2258 ho2145
              refine run_seq ?_
              refine run_region rfl ?_
              refine ops_ex rfl (guard_none rfl) rfl rfl (ex_move rfl rfl) ?_
              refine ops_ex rfl (guard_none rfl) rfl rfl (ex_assign rfl rfl) ?_
              refine ops_nil ?_
              refine at_then ?_
              refine run_ret ?_
              refine at_then_ret ?_
              refine at_block_ret ?_
              refine at_then_ret ?_
              refine at_then_ret ?_
              refine at_block_ret ?_
              refine at_then_ret ?_
              replace HM := (HM.front 0 rfl rfl).drop
              have hR := Option.some.inj ho2145
              subst hR
              have hT := thn_inl H
              have hR := Option.some.inj hT
              subst hR
              exact at_ret1 rfl rfl ⟨_, rfl, rfl, HM⟩
            · replace ho2145 := cond_f hb2258 ho2145
              refine run_skip ?_
              refine at_then ?_
              refine run_seq ?_
              obtain ⟨e2259, ho2145⟩ := chk_some ho2145
              obtain ⟨t2263, h2264, ho2145⟩ := bind_some ho2145
              refine run_meet (fun ρ_ w_ => ρ_ = [(0, p0), (9, p0), (10, .int .i64 (x0.length : Int)), (11, .int .i64 a2181), (53, .bool ((decide (0 < a2181)) && (decide (0 ≤ t2263))))] ∧ Mem w [] w_ []) ?_ ?_
              · skip
                refine run_drawf (fun w_ => Mem w [] w_ [box b2224 123 [.int .i64 ((gt x0 a2181).fRef.fTx), .int .i64 ((gt x0 a2181).fRef.fAt), .int .i64 ((gt x0 a2181).fOut.fValue), kv2222, .int .i64 ((gt x0 a2181).fOut.fRule.fNeed), .int .i64 ((gt x0 a2181).fOut.fRule.fAfter), .int .i64 ((gt x0 a2181).fHeight), .bool ((gt x0 a2181).fMined)]]) [(0, true), (1, true), (2, true), (3, true), (4, true), (5, true), (6, true), (7, true), (8, true), (9, true), (10, true), (11, false), (12, true), (13, true)] mixed rfl rfl (by kernel_rfl) ?_
                replace HM := HM.grow (fr_drew _)
                have hS := Mem.suf (M := []) HM
                refine drwp_take rfl (guard_none rfl) rfl rfl (fun w_ hS_ => (ex_move rfl rfl)) hS ?_
                refine drwp_take rfl (guard_none rfl) rfl rfl (fun w_ hS_ => (ex_gtr rfl rfl rfl)) hS ?_
                refine drwp_take rfl (guard_none rfl) rfl rfl (fun w_ hS_ => (ex_move rfl rfl)) hS ?_
                refine bool_cases (decide (0 < a2181)) (fun hg2265 => ?_) (fun hg2265 => ?_)
                · skip
                  refine drwp_take rfl (guard_on rfl rfl rfl hg2265) rfl rfl (fun w_ hS_ => (ex_move rfl rfl)) hS ?_
                  refine drwp_take rfl (guard_on rfl rfl rfl hg2265) rfl rfl (fun w_ hS_ => (ex_move rfl rfl)) hS ?_
                  refine drwp_take rfl (guard_on rfl rfl rfl hg2265) rfl rfl (fun w_ hS_ => (ex_sub rfl rfl rfl)) hS ?_
                  obtain ⟨kv2261, hc2260, hk2262⟩ : ∃ u, CellsAt _ (sb p0) (so p0 + (wrap64 (a2181 - 1)).toNat * 8) [(.int .i64 ((gt x0 (wrap64 (a2181 - 1))).fRef.fTx)), (.int .i64 ((gt x0 (wrap64 (a2181 - 1))).fRef.fAt)), (.int .i64 ((gt x0 (wrap64 (a2181 - 1))).fOut.fValue)), u, (.int .i64 ((gt x0 (wrap64 (a2181 - 1))).fOut.fRule.fNeed)), (.int .i64 ((gt x0 (wrap64 (a2181 - 1))).fOut.fRule.fAfter)), (.int .i64 ((gt x0 (wrap64 (a2181 - 1))).fHeight)), (.bool ((gt x0 (wrap64 (a2181 - 1))).fMined))] ∧ RdS kInt _ u ((gt x0 (wrap64 (a2181 - 1))).fOut.fRule.fKeys) := rd_with1 hp0 (or_t e2259 hg2265)
                  refine drwp_take rfl (guard_on rfl rfl rfl hg2265) rfl rfl (fun w_ hS_ => (ex_indexAddr (d := kCoin) rfl rfl rfl Try.underlying44 tsz123 hp0 (idx_lo (or_t e2259 hg2265)) (idx_hi (or_t e2259 hg2265)))) hS ?_
                  refine drwp_take rfl (guard_on rfl rfl rfl hg2265) rfl rfl (fun w_ hS_ => (ex_fieldAddr (off' := so p0 + (wrap64 (a2181 - 1)).toNat * 8) rfl rfl Try.underlying123 rfl tsz54 rfl)) hS ?_
                  refine drwp_take rfl (guard_on rfl rfl rfl hg2265) rfl rfl (fun w_ hS_ => (ex_loadN (cs := [(.int .i64 ((gt x0 (wrap64 (a2181 - 1))).fRef.fTx)), (.int .i64 ((gt x0 (wrap64 (a2181 - 1))).fRef.fAt))]) rfl rfl Try.underlying54 rfl tsz54 rfl ((hS_.at_ hc2260).sub 0 2 rfl))) hS ?_
                  refine drwp_take rfl (guard_on rfl rfl rfl hg2265) rfl rfl (fun w_ hS_ => (ex_fieldAddr (off' := 0) rfl rfl Try.underlying123 rfl tsz54 rfl)) hS ?_
                  refine drwp_take rfl (guard_on rfl rfl rfl hg2265) rfl rfl (fun w_ hS_ => (ex_loadN (cs := [(.int .i64 ((gt x0 a2181).fRef.fTx)), (.int .i64 ((gt x0 a2181).fRef.fAt))]) rfl rfl Try.underlying54 rfl tsz54 rfl ((hS_.box_at 0 rfl).sub 0 2 rfl))) hS ?_
                  refine drwp_one rfl (guard_on rfl rfl rfl hg2265) rfl rfl (does_callk rfl callok126 rfl (impl_compareRefs.calls (x0 := (gt x0 (wrap64 (a2181 - 1))).fRef) (x1 := (gt x0 a2181).fRef) (cond_t hg2265 h2264))) ?_
                  rintro _ w2266 ⟨rfl, hn⟩
                  replace HM : Mem w [] w2266 [box b2224 123 [.int .i64 ((gt x0 a2181).fRef.fTx), .int .i64 ((gt x0 a2181).fRef.fAt), .int .i64 ((gt x0 a2181).fOut.fValue), kv2222, .int .i64 ((gt x0 a2181).fOut.fRule.fNeed), .int .i64 ((gt x0 a2181).fOut.fRule.fAfter), .int .i64 ((gt x0 a2181).fHeight), .bool ((gt x0 a2181).fMined)]] := HM.call hn
                  refine ⟨Mem.suf (M := []) HM, ?_⟩
                  have hS := Mem.suf (M := []) HM
                  refine drwp_take rfl (guard_on rfl rfl rfl hg2265) rfl rfl (fun w_ hS_ => (ex_geq rfl rfl rfl)) hS ?_
                  refine drwp_take (v := .bool ((decide (0 < a2181)) && (decide (0 ≤ t2263)))) rfl (guard_none rfl) rfl rfl (fun w_ hS_ => (ex_pand_t rfl rfl hg2265 rfl)) hS ?_
                  refine drwp_done ?_
                  replace HM := (HM.front 0 rfl rfl).drop
                  exact at_meet [(0, p0), (9, p0), (10, .int .i64 (x0.length : Int)), (11, .int .i64 a2181), (53, .bool ((decide (0 < a2181)) && (decide (0 ≤ t2263))))] ⟨rfl, HM⟩ (Sub.cons rfl (Sub.cons rfl (Sub.cons rfl (Sub.cons rfl (Sub.cons rfl Sub.nil)))))
                · skip
                  refine drwp_off rfl (guard_off rfl rfl rfl hg2265) rfl rfl hS ?_
                  refine drwp_off rfl (guard_off rfl rfl rfl hg2265) rfl rfl hS ?_
                  refine drwp_off rfl (guard_off rfl rfl rfl hg2265) rfl rfl hS ?_
                  refine drwp_off rfl (guard_off rfl rfl rfl hg2265) rfl rfl hS ?_
                  refine drwp_off rfl (guard_off rfl rfl rfl hg2265) rfl rfl hS ?_
                  refine drwp_off rfl (guard_off rfl rfl rfl hg2265) rfl rfl hS ?_
                  refine drwp_off rfl (guard_off rfl rfl rfl hg2265) rfl rfl hS ?_
                  refine drwp_off rfl (guard_off rfl rfl rfl hg2265) rfl rfl hS ?_
                  refine drwp_off1 rfl (guard_off rfl rfl rfl hg2265) rfl rfl ⟨hS, ?_⟩
                  refine drwp_off rfl (guard_off rfl rfl rfl hg2265) rfl rfl hS ?_
                  have hg2267 : ((decide (0 < a2181)) && (decide (0 ≤ t2263))) = false := by simp only [hg2265, Bool.and_true, Bool.true_and, Bool.and_false, Bool.false_and, Bool.or_true, Bool.true_or, Bool.or_false, Bool.false_or, Bool.not_true, Bool.not_false, Bool.not_not]
                  refine drwp_take (v := .bool ((decide (0 < a2181)) && (decide (0 ≤ t2263)))) rfl (guard_none rfl) rfl rfl (fun w_ hS_ => (ex_pand_f rfl rfl hg2265)) hS ?_
                  refine drwp_done ?_
                  replace HM := (HM.front 0 rfl rfl).drop
                  exact at_meet [(0, p0), (9, p0), (10, .int .i64 (x0.length : Int)), (11, .int .i64 a2181), (53, .bool ((decide (0 < a2181)) && (decide (0 ≤ t2263))))] ⟨rfl, HM⟩ (Sub.cons rfl (Sub.cons rfl (Sub.cons rfl (Sub.cons rfl (Sub.cons rfl Sub.nil)))))
              · rintro _ w2268 ⟨rfl, HM⟩
                refine at_then ?_
                refine run_cond (b := ((decide (0 < a2181)) && (decide (0 ≤ t2263)))) rfl (fun hb2269 => ?_) (fun hb2269 => ?_)
                · replace ho2145 := cond_t hb2269 ho2145
                  refine run_seq ?_
                  refine run_region rfl ?_
                  refine ops_ex rfl (guard_none rfl) rfl rfl (ex_assign rfl rfl) ?_
                  refine ops_nil ?_
                  refine at_then ?_
                  refine run_ret ?_
                  refine at_block_ret ?_
                  refine at_then_ret ?_
                  refine at_then_ret ?_
                  refine at_block_ret ?_
                  refine at_then_ret ?_
                  have hR := Option.some.inj ho2145
                  subst hR
                  have hT := thn_inl H
                  have hR := Option.some.inj hT
                  subst hR
                  exact at_ret1 rfl rfl ⟨_, rfl, rfl, HM⟩
                · replace ho2145 := cond_f hb2269 ho2145
                  refine run_skip ?_
                  refine at_block ?_
                  refine at_then ?_
                  refine run_region rfl ?_
                  refine ops_ex rfl (guard_none rfl) rfl rfl (ex_add rfl rfl rfl) ?_
                  refine ops_ex rfl (guard_none rfl) rfl rfl (ex_move rfl rfl) ?_
                  refine ops_nil ?_
                  exact at_again k2217 (ρ1 := [(0, p0), (9, p0), (10, .int .i64 (x0.length : Int)), (11, .int .i64 (wrap64 (a2181 + 1)))]) (Nat.lt_succ_self _) ⟨_, ho2145, rfl, HM⟩ (Sub.cons rfl (Sub.cons rfl (Sub.cons rfl (Sub.cons rfl Sub.nil))))
      · replace ho2145 := cond_f hb2219 ho2145
        refine run_exit ?_
        refine at_then_exit ?_
        refine at_then_exit ?_
        refine at_block_exit ?_
        exact at_mid (ρ' := []) ⟨(Option.some.inj ho2145), rfl, HM⟩ Sub.nil
    · rintro _ w2270 ⟨rfl, rfl, HM⟩
      replace H := (thn_inr H)
      refine run_seq ?_
      refine run_region rfl ?_
      refine ops_ex rfl (guard_none rfl) rfl rfl (ex_assign rfl rfl) ?_
      refine ops_nil ?_
      refine at_then ?_
      refine run_ret ?_
      have hR := Option.some.inj H
      subst hR
      exact at_ret1 rfl rfl ⟨_, rfl, rfl, HM⟩

def impl_findCoin_1.f (k : Nat) (x0 : Coin) (x1 : Ref) : Option Int := ((impl_compareRefs.f k x0.fRef x1).bind fun t2305 => some t2305)
theorem impl_findCoin_1.calls {k : Nat} {x0 : Coin} {x1 : Ref} {p0_0 : Value} {w : World} (hp0_0 : RdS kInt w p0_0 x0.fOut.fRule.fKeys) {r : Int} (H : impl_findCoin_1.f k x0 x1 = some r) :
    Calls Try.prog 130 ([.agg #[(.int .i64 x0.fRef.fTx), (.int .i64 x0.fRef.fAt), (.int .i64 x0.fOut.fValue), p0_0, (.int .i64 x0.fOut.fRule.fNeed), (.int .i64 x0.fOut.fRule.fAfter), (.int .i64 x0.fHeight), (.bool x0.fMined)], .agg #[(.int .i64 x1.fTx), (.int .i64 x1.fAt)]] : List Value).toArray w (fun e w_ => ∃ v, e = .returned v ∧ v = (.int .i64 r) ∧ Mem w [] w_ []) := by
  have HM := Mem.start w
  refine calls_run (N := 9) Try.func130 rfl rfl rfl rfl ?_
  unfold impl_findCoin_1.f at H
  refine run_seq ?_
  refine run_region rfl ?_
  refine ops_does rfl (guard_none rfl) rfl rfl (does_box (cs := [.int .i64 x0.fRef.fTx, .int .i64 x0.fRef.fAt, .int .i64 x0.fOut.fValue, p0_0, .int .i64 x0.fOut.fRule.fNeed, .int .i64 x0.fOut.fRule.fAfter, .int .i64 x0.fHeight, .bool x0.fMined]) rfl rfl rfl HM) ?_
  rintro _ w2303 ⟨b2297, rfl, HM⟩
  refine ops_does rfl (guard_none rfl) rfl rfl (does_box (cs := [.int .i64 x1.fTx, .int .i64 x1.fAt]) rfl rfl rfl HM) ?_
  rintro _ w2304 ⟨b2300, rfl, HM⟩
  refine ops_ex rfl (guard_none rfl) rfl rfl (ex_assign rfl rfl) ?_
  refine ops_nil ?_
  refine at_then ?_
  refine run_seq ?_
  obtain ⟨t2305, h2306, H⟩ := bind_some H
  refine run_region rfl ?_
  refine ops_ex rfl (guard_none rfl) rfl rfl (ex_fieldAddr (off' := 0) rfl rfl Try.underlying123 rfl tsz54 rfl) ?_
  refine ops_ex rfl (guard_none rfl) rfl rfl (ex_loadN (cs := [(.int .i64 x0.fRef.fTx), (.int .i64 x0.fRef.fAt)]) rfl rfl Try.underlying54 rfl tsz54 rfl ((HM.box_at 1 rfl).sub 0 2 rfl)) ?_
  refine ops_ex rfl (guard_none rfl) rfl rfl (ex_loadN (cs := [(.int .i64 x1.fTx), (.int .i64 x1.fAt)]) rfl rfl Try.underlying54 rfl tsz54 rfl ((HM.box_at 0 rfl).sub 0 2 rfl)) ?_
  refine ops_does rfl (guard_none rfl) rfl rfl (does_callk rfl callok126 rfl (impl_compareRefs.calls (x0 := x0.fRef) (x1 := x1) h2306)) ?_
  rintro _ w2307 ⟨rfl, hn⟩
  replace HM : Mem w [] w2307 [box b2300 54 [.int .i64 x1.fTx, .int .i64 x1.fAt], box b2297 123 [.int .i64 x0.fRef.fTx, .int .i64 x0.fRef.fAt, .int .i64 x0.fOut.fValue, p0_0, .int .i64 x0.fOut.fRule.fNeed, .int .i64 x0.fOut.fRule.fAfter, .int .i64 x0.fHeight, .bool x0.fMined]] := HM.call hn
  refine ops_ex rfl (guard_none rfl) rfl rfl (ex_assign rfl rfl) ?_
  refine ops_nil ?_
  refine at_then ?_
  refine run_ret ?_
  replace HM := (HM.front 0 rfl rfl).drop
  replace HM := (HM.front 0 rfl rfl).drop
  have hR := Option.some.inj H
  subst hR
  exact at_ret1 rfl rfl ⟨_, rfl, rfl, HM⟩

def slices_BinarySearchFunc_impl_Coin.l0 (x0 : List Coin) (x1 : Ref) : Nat → Int → Int → Option Int
  | 0, _, _ => none
  | k + 1, a2385, a2386 => (bif (decide (a2385 < a2386)) then (chk (decide (0 ≤ (1 : Int)) && decide ((1 : Int) ≤ IntKind.u64.bits)) (chk (idxOk (wrap64 ((IntKind.u64.wrap (wrap64 (a2385 + a2386))) / 2 ^ ((1 : Int)).toNat)) x0.length) ((impl_findCoin_1.f k (gt x0 (wrap64 ((IntKind.u64.wrap (wrap64 (a2385 + a2386))) / 2 ^ ((1 : Int)).toNat))) x1).bind fun t2404 => (bif (decide (t2404 < 0)) then slices_BinarySearchFunc_impl_Coin.l0 x0 x1 k (wrap64 ((wrap64 ((IntKind.u64.wrap (wrap64 (a2385 + a2386))) / 2 ^ ((1 : Int)).toNat)) + 1)) a2386 else slices_BinarySearchFunc_impl_Coin.l0 x0 x1 k a2385 (wrap64 ((IntKind.u64.wrap (wrap64 (a2385 + a2386))) / 2 ^ ((1 : Int)).toNat)))))) else some a2385)
theorem slices_BinarySearchFunc_impl_Coin.l0_z (x0 : List Coin) (x1 : Ref) (a2385 : Int) (a2386 : Int) : slices_BinarySearchFunc_impl_Coin.l0 x0 x1 0 a2385 a2386 = none := rfl
theorem slices_BinarySearchFunc_impl_Coin.l0_s (x0 : List Coin) (x1 : Ref) (k : Nat) (a2385 : Int) (a2386 : Int) : slices_BinarySearchFunc_impl_Coin.l0 x0 x1 (k + 1) a2385 a2386 = (bif (decide (a2385 < a2386)) then (chk (decide (0 ≤ (1 : Int)) && decide ((1 : Int) ≤ IntKind.u64.bits)) (chk (idxOk (wrap64 ((IntKind.u64.wrap (wrap64 (a2385 + a2386))) / 2 ^ ((1 : Int)).toNat)) x0.length) ((impl_findCoin_1.f k (gt x0 (wrap64 ((IntKind.u64.wrap (wrap64 (a2385 + a2386))) / 2 ^ ((1 : Int)).toNat))) x1).bind fun t2404 => (bif (decide (t2404 < 0)) then slices_BinarySearchFunc_impl_Coin.l0 x0 x1 k (wrap64 ((wrap64 ((IntKind.u64.wrap (wrap64 (a2385 + a2386))) / 2 ^ ((1 : Int)).toNat)) + 1)) a2386 else slices_BinarySearchFunc_impl_Coin.l0 x0 x1 k a2385 (wrap64 ((IntKind.u64.wrap (wrap64 (a2385 + a2386))) / 2 ^ ((1 : Int)).toNat)))))) else some a2385) := rfl
def slices_BinarySearchFunc_impl_Coin.f (k : Nat) (x0 : List Coin) (x1 : Ref) : Option (Int × Bool) := ((slices_BinarySearchFunc_impl_Coin.l0 x0 x1 k 0 (x0.length : Int)).bind (fun a2373 => (chk (!(decide (a2373 < (x0.length : Int))) || (idxOk a2373 x0.length)) ((bif (decide (a2373 < (x0.length : Int))) then impl_findCoin_1.f k (gt x0 a2373) x1 else some default).bind fun t2413 => some (a2373, ((decide (a2373 < (x0.length : Int))) && (t2413 == 0)))))))
theorem slices_BinarySearchFunc_impl_Coin.calls {k : Nat} {x0 : List Coin} {x1 : Ref} {p0 : Value} {w : World} (hp0 : RdS kCoin w p0 x0) {r : Int × Bool} (H : slices_BinarySearchFunc_impl_Coin.f k x0 x1 = some r) :
    Calls Try.prog 129 ([p0, .agg #[(.int .i64 x1.fTx), (.int .i64 x1.fAt)], .func (.func 130) #[] #[]] : List Value).toArray w (fun e w_ => ∃ v, e = .returned v ∧ v = (.tuple #[.int .i64 r.1, .bool r.2]) ∧ Mem w [] w_ []) := by
  have HM := Mem.start w
  refine calls_run (N := 49) Try.func129 rfl rfl rfl rfl ?_
  unfold slices_BinarySearchFunc_impl_Coin.f at H
  refine run_seq ?_
  refine run_region rfl ?_
  refine ops_does rfl (guard_none rfl) rfl rfl (does_box (cs := [.int .i64 x1.fTx, .int .i64 x1.fAt]) rfl rfl rfl HM) ?_
  rintro _ w2343 ⟨b2340, rfl, HM⟩
  refine ops_ex rfl (guard_none rfl) rfl rfl (ex_assign rfl rfl) ?_
  refine ops_ex rfl (guard_none rfl) rfl rfl (ex_assign rfl rfl) ?_
  refine ops_nil ?_
  refine at_then ?_
  refine run_seq ?_
  refine run_region rfl ?_
  refine ops_ex rfl (guard_none rfl) rfl rfl (ex_move rfl rfl) ?_
  refine ops_ex rfl (guard_none rfl) rfl rfl (ex_len (d := kCoin) (xs := x0) rfl rfl Try.underlying44 hp0) ?_
  refine ops_ex rfl (guard_none rfl) rfl rfl (ex_assign rfl rfl) ?_
  refine ops_nil ?_
  refine at_then ?_
  refine run_seq ?_
  refine run_region rfl ?_
  refine ops_ex rfl (guard_none rfl) rfl rfl (ex_move rfl rfl) ?_
  refine ops_ex rfl (guard_none rfl) rfl rfl (ex_assign rfl rfl) ?_
  refine ops_ex rfl (guard_none rfl) rfl rfl (ex_assign rfl rfl) ?_
  refine ops_nil ?_
  refine at_then ?_
  obtain ⟨o2374, ho2375, H⟩ := bind_some H
  refine run_mid (fun ρ_ w_ => ∃ a2373 : Int, a2373 = o2374 ∧ ρ_ = [(0, p0), (2, .func (.func 130) #[] #[]), (4, .pointer (some ⟨b2340, 0, none⟩)), (8, .int .i64 (x0.length : Int)), (9, .int .i64 a2373)] ∧ Mem w [] w_ [box b2340 54 [.int .i64 x1.fTx, .int .i64 x1.fAt]]) ?_ ?_
  · clear H
    refine run_block ?_
    refine run_loop (fun k_ ρ_ w_ => ∃ a2385 : Int, ∃ a2386 : Int, slices_BinarySearchFunc_impl_Coin.l0 x0 x1 k_ a2385 a2386 = some o2374 ∧ ρ_ = [(0, p0), (2, .func (.func 130) #[] #[]), (4, .pointer (some ⟨b2340, 0, none⟩)), (8, .int .i64 (x0.length : Int)), (9, .int .i64 a2385), (10, .int .i64 a2386)] ∧ Mem w [] w_ [box b2340 54 [.int .i64 x1.fTx, .int .i64 x1.fAt]]) k (ρ1 := [(0, p0), (2, .func (.func 130) #[] #[]), (4, .pointer (some ⟨b2340, 0, none⟩)), (8, .int .i64 (x0.length : Int)), (9, .int .i64 0), (10, .int .i64 (x0.length : Int))]) ⟨_, _, ho2375, rfl, HM⟩ (Sub.cons rfl (Sub.cons rfl (Sub.cons rfl (Sub.cons rfl (Sub.cons rfl (Sub.cons rfl Sub.nil)))))) ?_
    clear HM ho2375
    rintro k2396 _ w2397 ⟨a2385, a2386, ho2375, rfl, HM⟩
    obtain _ | k2396 := k2396
    · exact nomatch ((slices_BinarySearchFunc_impl_Coin.l0_z x0 x1 a2385 a2386).symm.trans ho2375)
    replace ho2375 := (slices_BinarySearchFunc_impl_Coin.l0_s x0 x1 k2396 a2385 a2386).symm.trans ho2375
    refine run_seq ?_
    refine run_seq ?_
    refine run_region rfl ?_
    refine ops_ex rfl (guard_none rfl) rfl rfl (ex_move rfl rfl) ?_
    refine ops_ex rfl (guard_none rfl) rfl rfl (ex_move rfl rfl) ?_
    refine ops_ex rfl (guard_none rfl) rfl rfl (ex_lss rfl rfl rfl) ?_
    refine ops_nil ?_
    refine at_then ?_
    refine run_cond (b := (decide (a2385 < a2386))) rfl (fun hb2398 => ?_) (fun hb2398 => ?_)
    · replace ho2375 := cond_t hb2398 ho2375
      refine run_skip ?_
      refine at_then ?_
      refine run_block ?_
      refine run_seq ?_
      obtain ⟨e2399, ho2375⟩ := chk_some ho2375
      refine run_region rfl ?_
      refine ops_ex rfl (guard_none rfl) rfl rfl (ex_move rfl rfl) ?_
      refine ops_ex rfl (guard_none rfl) rfl rfl (ex_move rfl rfl) ?_
      refine ops_ex rfl (guard_none rfl) rfl rfl (ex_add rfl rfl rfl) ?_
      refine ops_ex rfl (guard_none rfl) rfl rfl (ex_conv rfl rfl (by rw [Try.underlying3]; rfl) Try.underlying202) ?_
      refine ops_ex rfl (guard_none rfl) rfl rfl (ex_shr rfl rfl rfl e2399) ?_
      refine ops_ex rfl (guard_none rfl) rfl rfl (ex_conv64 rfl rfl (by rw [Try.underlying202]; rfl) Try.underlying3) ?_
      refine ops_ex rfl (guard_none rfl) rfl rfl (ex_assign rfl rfl) ?_
      refine ops_nil ?_
      refine at_then ?_
      refine run_seq ?_
      obtain ⟨e2400, ho2375⟩ := chk_some ho2375
      obtain ⟨t2404, h2405, ho2375⟩ := bind_some ho2375
      refine run_drawf (fun w_ => Mem w [] w_ [box b2340 54 [.int .i64 x1.fTx, .int .i64 x1.fAt]]) [(0, true), (1, true), (2, true), (3, true), (4, true), (5, true), (6, false), (7, true)] mixed rfl rfl (by kernel_rfl) ?_
      replace HM := HM.grow (fr_drew _)
      have hS := Mem.suf (M := []) HM
      refine drwp_take rfl (guard_none rfl) rfl rfl (fun w_ hS_ => (ex_move rfl rfl)) hS ?_
      refine drwp_take rfl (guard_none rfl) rfl rfl (fun w_ hS_ => (ex_move rfl rfl)) hS ?_
      refine drwp_take rfl (guard_none rfl) rfl rfl (fun w_ hS_ => (ex_move rfl rfl)) hS ?_
      obtain ⟨kv2402, hc2401, hk2403⟩ : ∃ u, CellsAt _ (sb p0) (so p0 + (wrap64 ((IntKind.u64.wrap (wrap64 (a2385 + a2386))) / 2 ^ ((1 : Int)).toNat)).toNat * 8) [(.int .i64 ((gt x0 (wrap64 ((IntKind.u64.wrap (wrap64 (a2385 + a2386))) / 2 ^ ((1 : Int)).toNat))).fRef.fTx)), (.int .i64 ((gt x0 (wrap64 ((IntKind.u64.wrap (wrap64 (a2385 + a2386))) / 2 ^ ((1 : Int)).toNat))).fRef.fAt)), (.int .i64 ((gt x0 (wrap64 ((IntKind.u64.wrap (wrap64 (a2385 + a2386))) / 2 ^ ((1 : Int)).toNat))).fOut.fValue)), u, (.int .i64 ((gt x0 (wrap64 ((IntKind.u64.wrap (wrap64 (a2385 + a2386))) / 2 ^ ((1 : Int)).toNat))).fOut.fRule.fNeed)), (.int .i64 ((gt x0 (wrap64 ((IntKind.u64.wrap (wrap64 (a2385 + a2386))) / 2 ^ ((1 : Int)).toNat))).fOut.fRule.fAfter)), (.int .i64 ((gt x0 (wrap64 ((IntKind.u64.wrap (wrap64 (a2385 + a2386))) / 2 ^ ((1 : Int)).toNat))).fHeight)), (.bool ((gt x0 (wrap64 ((IntKind.u64.wrap (wrap64 (a2385 + a2386))) / 2 ^ ((1 : Int)).toNat))).fMined))] ∧ RdS kInt _ u ((gt x0 (wrap64 ((IntKind.u64.wrap (wrap64 (a2385 + a2386))) / 2 ^ ((1 : Int)).toNat))).fOut.fRule.fKeys) := rd_with1 hp0 e2400
      refine drwp_take rfl (guard_none rfl) rfl rfl (fun w_ hS_ => (ex_indexAddr (d := kCoin) rfl rfl rfl Try.underlying44 tsz123 hp0 (idx_lo e2400) (idx_hi e2400))) hS ?_
      refine drwp_take rfl (guard_none rfl) rfl rfl (fun w_ hS_ => (ex_loadN (cs := [(.int .i64 ((gt x0 (wrap64 ((IntKind.u64.wrap (wrap64 (a2385 + a2386))) / 2 ^ ((1 : Int)).toNat))).fRef.fTx)), (.int .i64 ((gt x0 (wrap64 ((IntKind.u64.wrap (wrap64 (a2385 + a2386))) / 2 ^ ((1 : Int)).toNat))).fRef.fAt)), (.int .i64 ((gt x0 (wrap64 ((IntKind.u64.wrap (wrap64 (a2385 + a2386))) / 2 ^ ((1 : Int)).toNat))).fOut.fValue)), kv2402, (.int .i64 ((gt x0 (wrap64 ((IntKind.u64.wrap (wrap64 (a2385 + a2386))) / 2 ^ ((1 : Int)).toNat))).fOut.fRule.fNeed)), (.int .i64 ((gt x0 (wrap64 ((IntKind.u64.wrap (wrap64 (a2385 + a2386))) / 2 ^ ((1 : Int)).toNat))).fOut.fRule.fAfter)), (.int .i64 ((gt x0 (wrap64 ((IntKind.u64.wrap (wrap64 (a2385 + a2386))) / 2 ^ ((1 : Int)).toNat))).fHeight)), (.bool ((gt x0 (wrap64 ((IntKind.u64.wrap (wrap64 (a2385 + a2386))) / 2 ^ ((1 : Int)).toNat))).fMined))]) rfl rfl Try.underlying123 rfl tsz123 rfl ((hS_.at_ hc2401).sub 0 8 rfl))) hS ?_
      refine drwp_take rfl (guard_none rfl) rfl rfl (fun w_ hS_ => (ex_loadN (cs := [(.int .i64 x1.fTx), (.int .i64 x1.fAt)]) rfl rfl Try.underlying54 rfl tsz54 rfl ((hS_.box_at 0 rfl).sub 0 2 rfl))) hS ?_
      refine drwp_one rfl (guard_none rfl) rfl rfl (does_callvk rfl callok130 rfl rfl rfl (impl_findCoin_1.calls (x0 := (gt x0 (wrap64 ((IntKind.u64.wrap (wrap64 (a2385 + a2386))) / 2 ^ ((1 : Int)).toNat)))) (x1 := x1) (HM.rd hk2403) h2405)) ?_
      rintro _ w2406 ⟨rfl, hn⟩
      replace HM : Mem w [] w2406 [box b2340 54 [.int .i64 x1.fTx, .int .i64 x1.fAt]] := HM.call hn
      refine ⟨Mem.suf (M := []) HM, ?_⟩
      have hS := Mem.suf (M := []) HM
      refine drwp_take rfl (guard_none rfl) rfl rfl (fun w_ hS_ => (ex_lss rfl rfl rfl)) hS ?_
      refine drwp_done ?_
      refine at_then ?_
      refine run_cond (b := (decide (t2404 < 0))) rfl (fun hb2407 => ?_) (fun hb2407 => ?_)
      · replace ho2375 := cond_t hb2407 ho2375
        refine run_region rfl ?_
        refine ops_ex rfl (guard_none rfl) rfl rfl (ex_move rfl rfl) ?_
        refine ops_ex rfl (guard_none rfl) rfl rfl (ex_add rfl rfl rfl) ?_
        refine ops_ex rfl (guard_none rfl) rfl rfl (ex_assign rfl rfl) ?_
        refine ops_nil ?_
        refine at_block ?_
        exact at_again k2396 (ρ1 := [(0, p0), (2, .func (.func 130) #[] #[]), (4, .pointer (some ⟨b2340, 0, none⟩)), (8, .int .i64 (x0.length : Int)), (9, .int .i64 (wrap64 ((wrap64 ((IntKind.u64.wrap (wrap64 (a2385 + a2386))) / 2 ^ ((1 : Int)).toNat)) + 1))), (10, .int .i64 a2386)]) (Nat.lt_succ_self _) ⟨_, _, ho2375, rfl, HM⟩ (Sub.cons rfl (Sub.cons rfl (Sub.cons rfl (Sub.cons rfl (Sub.cons rfl (Sub.cons rfl Sub.nil))))))
      · replace ho2375 := cond_f hb2407 ho2375
        refine run_region rfl ?_
        refine ops_ex rfl (guard_none rfl) rfl rfl (ex_move rfl rfl) ?_
        refine ops_ex rfl (guard_none rfl) rfl rfl (ex_assign rfl rfl) ?_
        refine ops_nil ?_
        refine at_block ?_
        exact at_again k2396 (ρ1 := [(0, p0), (2, .func (.func 130) #[] #[]), (4, .pointer (some ⟨b2340, 0, none⟩)), (8, .int .i64 (x0.length : Int)), (9, .int .i64 a2385), (10, .int .i64 (wrap64 ((IntKind.u64.wrap (wrap64 (a2385 + a2386))) / 2 ^ ((1 : Int)).toNat)))]) (Nat.lt_succ_self _) ⟨_, _, ho2375, rfl, HM⟩ (Sub.cons rfl (Sub.cons rfl (Sub.cons rfl (Sub.cons rfl (Sub.cons rfl (Sub.cons rfl Sub.nil))))))
    · replace ho2375 := cond_f hb2398 ho2375
      refine run_exit ?_
      refine at_then_exit ?_
      refine at_then_exit ?_
      refine at_block_exit ?_
      exact at_mid (ρ' := [(0, p0), (2, .func (.func 130) #[] #[]), (4, .pointer (some ⟨b2340, 0, none⟩)), (8, .int .i64 (x0.length : Int)), (9, .int .i64 a2385)]) ⟨_, (Option.some.inj ho2375), rfl, HM⟩ (Sub.cons rfl (Sub.cons rfl (Sub.cons rfl (Sub.cons rfl (Sub.cons rfl Sub.nil)))))
  · rintro _ w2408 ⟨a2373, rfl, rfl, HM⟩
    refine run_seq ?_
    obtain ⟨e2409, H⟩ := chk_some H
    obtain ⟨t2413, h2414, H⟩ := bind_some H
    refine run_meet (fun ρ_ w_ => ρ_ = [(6, .int .i64 a2373), (7, .bool ((decide (a2373 < (x0.length : Int))) && (t2413 == 0)))] ∧ Mem w [] w_ []) ?_ ?_
    · skip
      refine run_drawf (fun w_ => Mem w [] w_ [box b2340 54 [.int .i64 x1.fTx, .int .i64 x1.fAt]]) [(0, true), (1, true), (2, true), (3, true), (4, true), (5, true), (6, true), (7, true), (8, true), (9, true), (10, true), (11, false), (12, true), (13, true), (14, true), (15, true)] mixed rfl rfl (by kernel_rfl) ?_
      replace HM := HM.grow (fr_drew _)
      have hS := Mem.suf (M := []) HM
      refine drwp_take rfl (guard_none rfl) rfl rfl (fun w_ hS_ => (ex_move rfl rfl)) hS ?_
      refine drwp_take rfl (guard_none rfl) rfl rfl (fun w_ hS_ => (ex_move rfl rfl)) hS ?_
      refine drwp_take rfl (guard_none rfl) rfl rfl (fun w_ hS_ => (ex_move rfl rfl)) hS ?_
      refine drwp_take rfl (guard_none rfl) rfl rfl (fun w_ hS_ => (ex_lss rfl rfl rfl)) hS ?_
      refine drwp_take rfl (guard_none rfl) rfl rfl (fun w_ hS_ => (ex_move rfl rfl)) hS ?_
      refine bool_cases (decide (a2373 < (x0.length : Int))) (fun hg2415 => ?_) (fun hg2415 => ?_)
      · skip
        refine drwp_take rfl (guard_on rfl rfl rfl hg2415) rfl rfl (fun w_ hS_ => (ex_move rfl rfl)) hS ?_
        refine drwp_take rfl (guard_on rfl rfl rfl hg2415) rfl rfl (fun w_ hS_ => (ex_move rfl rfl)) hS ?_
        refine drwp_take rfl (guard_on rfl rfl rfl hg2415) rfl rfl (fun w_ hS_ => (ex_move rfl rfl)) hS ?_
        obtain ⟨kv2411, hc2410, hk2412⟩ : ∃ u, CellsAt _ (sb p0) (so p0 + (a2373).toNat * 8) [(.int .i64 ((gt x0 a2373).fRef.fTx)), (.int .i64 ((gt x0 a2373).fRef.fAt)), (.int .i64 ((gt x0 a2373).fOut.fValue)), u, (.int .i64 ((gt x0 a2373).fOut.fRule.fNeed)), (.int .i64 ((gt x0 a2373).fOut.fRule.fAfter)), (.int .i64 ((gt x0 a2373).fHeight)), (.bool ((gt x0 a2373).fMined))] ∧ RdS kInt _ u ((gt x0 a2373).fOut.fRule.fKeys) := rd_with1 hp0 (or_t e2409 hg2415)
        refine drwp_take rfl (guard_on rfl rfl rfl hg2415) rfl rfl (fun w_ hS_ => (ex_indexAddr (d := kCoin) rfl rfl rfl Try.underlying44 tsz123 hp0 (idx_lo (or_t e2409 hg2415)) (idx_hi (or_t e2409 hg2415)))) hS ?_
        refine drwp_take rfl (guard_on rfl rfl rfl hg2415) rfl rfl (fun w_ hS_ => (ex_loadN (cs := [(.int .i64 ((gt x0 a2373).fRef.fTx)), (.int .i64 ((gt x0 a2373).fRef.fAt)), (.int .i64 ((gt x0 a2373).fOut.fValue)), kv2411, (.int .i64 ((gt x0 a2373).fOut.fRule.fNeed)), (.int .i64 ((gt x0 a2373).fOut.fRule.fAfter)), (.int .i64 ((gt x0 a2373).fHeight)), (.bool ((gt x0 a2373).fMined))]) rfl rfl Try.underlying123 rfl tsz123 rfl ((hS_.at_ hc2410).sub 0 8 rfl))) hS ?_
        refine drwp_take rfl (guard_on rfl rfl rfl hg2415) rfl rfl (fun w_ hS_ => (ex_loadN (cs := [(.int .i64 x1.fTx), (.int .i64 x1.fAt)]) rfl rfl Try.underlying54 rfl tsz54 rfl ((hS_.box_at 0 rfl).sub 0 2 rfl))) hS ?_
        refine drwp_one rfl (guard_on rfl rfl rfl hg2415) rfl rfl (does_callvk rfl callok130 rfl rfl rfl (impl_findCoin_1.calls (x0 := (gt x0 a2373)) (x1 := x1) (HM.rd hk2412) (cond_t hg2415 h2414))) ?_
        rintro _ w2416 ⟨rfl, hn⟩
        replace HM : Mem w [] w2416 [box b2340 54 [.int .i64 x1.fTx, .int .i64 x1.fAt]] := HM.call hn
        refine ⟨Mem.suf (M := []) HM, ?_⟩
        have hS := Mem.suf (M := []) HM
        refine drwp_take rfl (guard_on rfl rfl rfl hg2415) rfl rfl (fun w_ hS_ => (ex_eql rfl rfl rfl)) hS ?_
        refine drwp_take (v := .bool ((decide (a2373 < (x0.length : Int))) && (t2413 == 0))) rfl (guard_none rfl) rfl rfl (fun w_ hS_ => (ex_pand_t rfl rfl hg2415 rfl)) hS ?_
        refine drwp_take rfl (guard_none rfl) rfl rfl (fun w_ hS_ => (ex_assign rfl rfl)) hS ?_
        refine drwp_take rfl (guard_none rfl) rfl rfl (fun w_ hS_ => (ex_assign rfl rfl)) hS ?_
        refine drwp_done ?_
        replace HM := (HM.front 0 rfl rfl).drop
        exact at_meet [(6, .int .i64 a2373), (7, .bool ((decide (a2373 < (x0.length : Int))) && (t2413 == 0)))] ⟨rfl, HM⟩ (Sub.cons rfl (Sub.cons rfl Sub.nil))
      · skip
        refine drwp_off rfl (guard_off rfl rfl rfl hg2415) rfl rfl hS ?_
        refine drwp_off rfl (guard_off rfl rfl rfl hg2415) rfl rfl hS ?_
        refine drwp_off rfl (guard_off rfl rfl rfl hg2415) rfl rfl hS ?_
        refine drwp_off rfl (guard_off rfl rfl rfl hg2415) rfl rfl hS ?_
        refine drwp_off rfl (guard_off rfl rfl rfl hg2415) rfl rfl hS ?_
        refine drwp_off rfl (guard_off rfl rfl rfl hg2415) rfl rfl hS ?_
        refine drwp_off1 rfl (guard_off rfl rfl rfl hg2415) rfl rfl ⟨hS, ?_⟩
        refine drwp_off rfl (guard_off rfl rfl rfl hg2415) rfl rfl hS ?_
        have hg2417 : ((decide (a2373 < (x0.length : Int))) && (t2413 == 0)) = false := by simp only [hg2415, Bool.and_true, Bool.true_and, Bool.and_false, Bool.false_and, Bool.or_true, Bool.true_or, Bool.or_false, Bool.false_or, Bool.not_true, Bool.not_false, Bool.not_not]
        refine drwp_take (v := .bool ((decide (a2373 < (x0.length : Int))) && (t2413 == 0))) rfl (guard_none rfl) rfl rfl (fun w_ hS_ => (ex_pand_f rfl rfl hg2415)) hS ?_
        refine drwp_take rfl (guard_none rfl) rfl rfl (fun w_ hS_ => (ex_assign rfl rfl)) hS ?_
        refine drwp_take rfl (guard_none rfl) rfl rfl (fun w_ hS_ => (ex_assign rfl rfl)) hS ?_
        refine drwp_done ?_
        replace HM := (HM.front 0 rfl rfl).drop
        exact at_meet [(6, .int .i64 a2373), (7, .bool ((decide (a2373 < (x0.length : Int))) && (t2413 == 0)))] ⟨rfl, HM⟩ (Sub.cons rfl (Sub.cons rfl Sub.nil))
    · rintro _ w2418 ⟨rfl, HM⟩
      refine at_then ?_
      refine run_ret ?_
      have hR := Option.some.inj H
      subst hR
      exact at_ret2 rfl rfl rfl ⟨_, rfl, rfl, HM⟩
end Go.Proofs.Ytigojhglkilodaa.Zk
