/- What functions of the program compute, each as a plain function, and that they do. Conditions: as each theorem states them. -/
import Derived.Test.YtoiacoiccpiciaaSameCoinsZkF0
namespace Go.Proofs.Ytoiacoiccpiciaa.Zk
open Go Go.RowKit Go.IntWalk Go.Proofs
set_option linter.unusedVariables false
set_option linter.unusedSimpArgs false
set_option maxRecDepth 100000
def spec_l2Same.f (k : Nat) (x0 : Rule) (x1 : Rule) : Option Bool := ((bif ((x0.fNeed == x1.fNeed) && (x0.fAfter == x1.fAfter)) then spec_l2Ints.f k x0.fKeys x1.fKeys else some default).bind fun t598 => some (((x0.fNeed == x1.fNeed) && (x0.fAfter == x1.fAfter)) && t598))
theorem spec_l2Same.calls {k : Nat} {x0 : Rule} {x1 : Rule} {b0 f0 : Nat} {p0_0 : Value} {b1 f1 : Nat} {p1_0 : Value} {w : World} (hc0 : CellsAt w b0 f0 [p0_0, .int .i64 x0.fNeed, .int .i64 x0.fAfter]) (hp0_0 : RdS kInt w p0_0 x0.fKeys) (hc1 : CellsAt w b1 f1 [p1_0, .int .i64 x1.fNeed, .int .i64 x1.fAfter]) (hp1_0 : RdS kInt w p1_0 x1.fKeys) {r : Bool} (H : spec_l2Same.f k x0 x1 = some r) :
    Calls Try.prog 121 ([.pointer (some ⟨b0, f0, none⟩), .pointer (some ⟨b1, f1, none⟩)] : List Value).toArray w (fun e w_ => ∃ v, e = .returned v ∧ v = (.bool r) ∧ Mem w [] w_ []) := by
  have HM := Mem.start w
  refine calls_run (N := 36) Try.func121 rfl rfl rfl rfl ?_
  unfold spec_l2Same.f at H
  refine run_seq ?_
  refine run_region rfl ?_
  refine ops_ex rfl (guard_none rfl) rfl rfl (ex_assign rfl rfl) ?_
  refine ops_nil ?_
  refine at_then ?_
  refine run_seq ?_
  obtain ⟨t598, h599, H⟩ := bind_some H
  refine run_meet (fun ρ_ w_ => ρ_ = [(4, .bool (((x0.fNeed == x1.fNeed) && (x0.fAfter == x1.fAfter)) && t598))] ∧ Mem w [] w_ []) ?_ ?_
  · skip
    refine run_drawf (fun w_ => Mem w [] w_ []) [(0, true), (1, true), (2, true), (3, true), (4, true), (5, true), (6, true), (7, true), (8, true), (9, true), (10, true), (11, true), (12, true), (13, true), (14, true), (15, true), (16, true), (17, true), (18, true), (19, true), (20, true), (21, true), (22, true), (23, true), (24, true), (25, true), (26, true), (27, true), (28, true), (29, false), (30, true), (31, true)] mixed rfl rfl (by kernel_rfl) ?_
    replace HM := HM.grow (fr_drew _)
    have hS := Mem.suf (M := []) HM
    refine drwp_take rfl (guard_none rfl) rfl rfl (fun w_ hS_ => (ex_move rfl rfl)) hS ?_
    refine drwp_take rfl (guard_none rfl) rfl rfl (fun w_ hS_ => (ex_nilCheck rfl rfl)) hS ?_
    refine drwp_take rfl (guard_none rfl) rfl rfl (fun w_ hS_ => (ex_fieldAddr (off' := f0 + 1) rfl rfl Try.underlying100 rfl tsz2 rfl)) hS ?_
    refine drwp_take rfl (guard_none rfl) rfl rfl (fun w_ hS_ => (ex_load1 rfl rfl Try.underlying2 rfl ((hS_.at_ hc0) 1 _ rfl))) hS ?_
    refine drwp_take rfl (guard_none rfl) rfl rfl (fun w_ hS_ => (ex_move rfl rfl)) hS ?_
    refine drwp_take rfl (guard_none rfl) rfl rfl (fun w_ hS_ => (ex_nilCheck rfl rfl)) hS ?_
    refine drwp_take rfl (guard_none rfl) rfl rfl (fun w_ hS_ => (ex_fieldAddr (off' := f1 + 1) rfl rfl Try.underlying100 rfl tsz2 rfl)) hS ?_
    refine drwp_take rfl (guard_none rfl) rfl rfl (fun w_ hS_ => (ex_load1 rfl rfl Try.underlying2 rfl ((hS_.at_ hc1) 1 _ rfl))) hS ?_
    refine drwp_take rfl (guard_none rfl) rfl rfl (fun w_ hS_ => (ex_eql rfl rfl rfl)) hS ?_
    refine drwp_take rfl (guard_none rfl) rfl rfl (fun w_ hS_ => (ex_move rfl rfl)) hS ?_
    refine bool_cases (x0.fNeed == x1.fNeed) (fun hg600 => ?_) (fun hg600 => ?_)
    · skip
      refine drwp_take rfl (guard_on rfl rfl rfl hg600) rfl rfl (fun w_ hS_ => (ex_move rfl rfl)) hS ?_
      refine drwp_take rfl (guard_on rfl rfl rfl hg600) rfl rfl (fun w_ hS_ => (ex_nilCheck rfl rfl)) hS ?_
      refine drwp_take rfl (guard_on rfl rfl rfl hg600) rfl rfl (fun w_ hS_ => (ex_fieldAddr (off' := f0 + 2) rfl rfl Try.underlying100 rfl tsz2 rfl)) hS ?_
      refine drwp_take rfl (guard_on rfl rfl rfl hg600) rfl rfl (fun w_ hS_ => (ex_load1 rfl rfl Try.underlying2 rfl ((hS_.at_ hc0) 2 _ rfl))) hS ?_
      refine drwp_take rfl (guard_on rfl rfl rfl hg600) rfl rfl (fun w_ hS_ => (ex_move rfl rfl)) hS ?_
      refine drwp_take rfl (guard_on rfl rfl rfl hg600) rfl rfl (fun w_ hS_ => (ex_nilCheck rfl rfl)) hS ?_
      refine drwp_take rfl (guard_on rfl rfl rfl hg600) rfl rfl (fun w_ hS_ => (ex_fieldAddr (off' := f1 + 2) rfl rfl Try.underlying100 rfl tsz2 rfl)) hS ?_
      refine drwp_take rfl (guard_on rfl rfl rfl hg600) rfl rfl (fun w_ hS_ => (ex_load1 rfl rfl Try.underlying2 rfl ((hS_.at_ hc1) 2 _ rfl))) hS ?_
      refine drwp_take rfl (guard_on rfl rfl rfl hg600) rfl rfl (fun w_ hS_ => (ex_eql rfl rfl rfl)) hS ?_
      refine drwp_take (v := .bool ((x0.fNeed == x1.fNeed) && (x0.fAfter == x1.fAfter))) rfl (guard_none rfl) rfl rfl (fun w_ hS_ => (ex_pand_t rfl rfl hg600 rfl)) hS ?_
      refine drwp_take rfl (guard_none rfl) rfl rfl (fun w_ hS_ => (ex_move rfl rfl)) hS ?_
      refine bool_cases ((x0.fNeed == x1.fNeed) && (x0.fAfter == x1.fAfter)) (fun hg601 => ?_) (fun hg601 => ?_)
      · skip
        refine drwp_take rfl (guard_on rfl rfl rfl hg601) rfl rfl (fun w_ hS_ => (ex_move rfl rfl)) hS ?_
        refine drwp_take rfl (guard_on rfl rfl rfl hg601) rfl rfl (fun w_ hS_ => (ex_nilCheck rfl rfl)) hS ?_
        refine drwp_take rfl (guard_on rfl rfl rfl hg601) rfl rfl (fun w_ hS_ => (ex_fieldAddr (off' := f0) rfl rfl Try.underlying100 rfl tsz74 rfl)) hS ?_
        refine drwp_take rfl (guard_on rfl rfl rfl hg601) rfl rfl (fun w_ hS_ => (ex_load1 rfl rfl Try.underlying74 rfl ((hS_.at_ hc0) 0 _ rfl))) hS ?_
        refine drwp_take rfl (guard_on rfl rfl rfl hg601) rfl rfl (fun w_ hS_ => (ex_move rfl rfl)) hS ?_
        refine drwp_take rfl (guard_on rfl rfl rfl hg601) rfl rfl (fun w_ hS_ => (ex_nilCheck rfl rfl)) hS ?_
        refine drwp_take rfl (guard_on rfl rfl rfl hg601) rfl rfl (fun w_ hS_ => (ex_fieldAddr (off' := f1) rfl rfl Try.underlying100 rfl tsz74 rfl)) hS ?_
        refine drwp_take rfl (guard_on rfl rfl rfl hg601) rfl rfl (fun w_ hS_ => (ex_load1 rfl rfl Try.underlying74 rfl ((hS_.at_ hc1) 0 _ rfl))) hS ?_
        refine drwp_one rfl (guard_on rfl rfl rfl hg601) rfl rfl (does_callk rfl callok157 rfl (spec_l2Ints.calls (x0 := x0.fKeys) (x1 := x1.fKeys) (HM.rd hp0_0) (HM.rd hp1_0) (cond_t hg601 h599))) ?_
        rintro _ w602 ⟨rfl, hn⟩
        replace HM : Mem w [] w602 [] := HM.call hn
        refine ⟨Mem.suf (M := []) HM, ?_⟩
        have hS := Mem.suf (M := []) HM
        refine drwp_take (v := .bool (((x0.fNeed == x1.fNeed) && (x0.fAfter == x1.fAfter)) && t598)) rfl (guard_none rfl) rfl rfl (fun w_ hS_ => (ex_pand_t rfl rfl hg601 rfl)) hS ?_
        refine drwp_take rfl (guard_none rfl) rfl rfl (fun w_ hS_ => (ex_assign rfl rfl)) hS ?_
        refine drwp_done ?_
        exact at_meet [(4, .bool (((x0.fNeed == x1.fNeed) && (x0.fAfter == x1.fAfter)) && t598))] ⟨rfl, HM⟩ (Sub.cons rfl Sub.nil)
      · skip
        refine drwp_off rfl (guard_off rfl rfl rfl hg601) rfl rfl hS ?_
        refine drwp_off rfl (guard_off rfl rfl rfl hg601) rfl rfl hS ?_
        refine drwp_off rfl (guard_off rfl rfl rfl hg601) rfl rfl hS ?_
        refine drwp_off rfl (guard_off rfl rfl rfl hg601) rfl rfl hS ?_
        refine drwp_off rfl (guard_off rfl rfl rfl hg601) rfl rfl hS ?_
        refine drwp_off rfl (guard_off rfl rfl rfl hg601) rfl rfl hS ?_
        refine drwp_off rfl (guard_off rfl rfl rfl hg601) rfl rfl hS ?_
        refine drwp_off rfl (guard_off rfl rfl rfl hg601) rfl rfl hS ?_
        refine drwp_off1 rfl (guard_off rfl rfl rfl hg601) rfl rfl ⟨hS, ?_⟩
        have hg603 : (((x0.fNeed == x1.fNeed) && (x0.fAfter == x1.fAfter)) && t598) = false := by simp only [hg601, Bool.and_true, Bool.true_and, Bool.and_false, Bool.false_and, Bool.or_true, Bool.true_or, Bool.or_false, Bool.false_or, Bool.not_true, Bool.not_false, Bool.not_not]
        refine drwp_take (v := .bool (((x0.fNeed == x1.fNeed) && (x0.fAfter == x1.fAfter)) && t598)) rfl (guard_none rfl) rfl rfl (fun w_ hS_ => (ex_pand_f rfl rfl hg601)) hS ?_
        refine drwp_take rfl (guard_none rfl) rfl rfl (fun w_ hS_ => (ex_assign rfl rfl)) hS ?_
        refine drwp_done ?_
        exact at_meet [(4, .bool (((x0.fNeed == x1.fNeed) && (x0.fAfter == x1.fAfter)) && t598))] ⟨rfl, HM⟩ (Sub.cons rfl Sub.nil)
    · skip
      refine drwp_off rfl (guard_off rfl rfl rfl hg600) rfl rfl hS ?_
      refine drwp_off rfl (guard_off rfl rfl rfl hg600) rfl rfl hS ?_
      refine drwp_off rfl (guard_off rfl rfl rfl hg600) rfl rfl hS ?_
      refine drwp_off rfl (guard_off rfl rfl rfl hg600) rfl rfl hS ?_
      refine drwp_off rfl (guard_off rfl rfl rfl hg600) rfl rfl hS ?_
      refine drwp_off rfl (guard_off rfl rfl rfl hg600) rfl rfl hS ?_
      refine drwp_off rfl (guard_off rfl rfl rfl hg600) rfl rfl hS ?_
      refine drwp_off rfl (guard_off rfl rfl rfl hg600) rfl rfl hS ?_
      refine drwp_off rfl (guard_off rfl rfl rfl hg600) rfl rfl hS ?_
      have hg604 : ((x0.fNeed == x1.fNeed) && (x0.fAfter == x1.fAfter)) = false := by simp only [hg600, Bool.and_true, Bool.true_and, Bool.and_false, Bool.false_and, Bool.or_true, Bool.true_or, Bool.or_false, Bool.false_or, Bool.not_true, Bool.not_false, Bool.not_not]
      refine drwp_take (v := .bool ((x0.fNeed == x1.fNeed) && (x0.fAfter == x1.fAfter))) rfl (guard_none rfl) rfl rfl (fun w_ hS_ => (ex_pand_f rfl rfl hg600)) hS ?_
      refine drwp_take rfl (guard_none rfl) rfl rfl (fun w_ hS_ => (ex_move rfl rfl)) hS ?_
      refine drwp_off rfl (guard_off rfl rfl rfl hg604) rfl rfl hS ?_
      refine drwp_off rfl (guard_off rfl rfl rfl hg604) rfl rfl hS ?_
      refine drwp_off rfl (guard_off rfl rfl rfl hg604) rfl rfl hS ?_
      refine drwp_off rfl (guard_off rfl rfl rfl hg604) rfl rfl hS ?_
      refine drwp_off rfl (guard_off rfl rfl rfl hg604) rfl rfl hS ?_
      refine drwp_off rfl (guard_off rfl rfl rfl hg604) rfl rfl hS ?_
      refine drwp_off rfl (guard_off rfl rfl rfl hg604) rfl rfl hS ?_
      refine drwp_off rfl (guard_off rfl rfl rfl hg604) rfl rfl hS ?_
      refine drwp_off1 rfl (guard_off rfl rfl rfl hg604) rfl rfl ⟨hS, ?_⟩
      have hg605 : (((x0.fNeed == x1.fNeed) && (x0.fAfter == x1.fAfter)) && t598) = false := by simp only [hg604, Bool.and_true, Bool.true_and, Bool.and_false, Bool.false_and, Bool.or_true, Bool.true_or, Bool.or_false, Bool.false_or, Bool.not_true, Bool.not_false, Bool.not_not]
      refine drwp_take (v := .bool (((x0.fNeed == x1.fNeed) && (x0.fAfter == x1.fAfter)) && t598)) rfl (guard_none rfl) rfl rfl (fun w_ hS_ => (ex_pand_f rfl rfl hg604)) hS ?_
      refine drwp_take rfl (guard_none rfl) rfl rfl (fun w_ hS_ => (ex_assign rfl rfl)) hS ?_
      refine drwp_done ?_
      exact at_meet [(4, .bool (((x0.fNeed == x1.fNeed) && (x0.fAfter == x1.fAfter)) && t598))] ⟨rfl, HM⟩ (Sub.cons rfl Sub.nil)
  · rintro _ w606 ⟨rfl, HM⟩
    refine at_then ?_
    refine run_ret ?_
    have hR := Option.some.inj H
    subst hR
    exact at_ret1 rfl rfl ⟨_, rfl, rfl, HM⟩

def spec_l4Same.l0 (x0 : List Coin) (x1 : List Coin) : Nat → Int → Option (Bool ⊕ Unit)
  | 0, _ => none
  | k + 1, a882 => (bif (decide (a882 < (x0.length : Int))) then (chk (idxOk a882 x0.length) (chk (idxOk a882 x1.length) (chk (!(!(!((((gt x0 a882).fRef.fTx) == ((gt x1 a882).fRef.fTx)) && (((gt x0 a882).fRef.fAt) == ((gt x1 a882).fRef.fAt))))) || (idxOk a882 x0.length)) (chk (!(!(!((((gt x0 a882).fRef.fTx) == ((gt x1 a882).fRef.fTx)) && (((gt x0 a882).fRef.fAt) == ((gt x1 a882).fRef.fAt))))) || (idxOk a882 x1.length)) (chk (!(!((!((((gt x0 a882).fRef.fTx) == ((gt x1 a882).fRef.fTx)) && (((gt x0 a882).fRef.fAt) == ((gt x1 a882).fRef.fAt)))) || (((gt x0 a882).fHeight) != ((gt x1 a882).fHeight)))) || (idxOk a882 x0.length)) (chk (!(!((!((((gt x0 a882).fRef.fTx) == ((gt x1 a882).fRef.fTx)) && (((gt x0 a882).fRef.fAt) == ((gt x1 a882).fRef.fAt)))) || (((gt x0 a882).fHeight) != ((gt x1 a882).fHeight)))) || (idxOk a882 x1.length)) (chk (!(!(((!((((gt x0 a882).fRef.fTx) == ((gt x1 a882).fRef.fTx)) && (((gt x0 a882).fRef.fAt) == ((gt x1 a882).fRef.fAt)))) || (((gt x0 a882).fHeight) != ((gt x1 a882).fHeight))) || (((gt x0 a882).fMined) != ((gt x1 a882).fMined)))) || (idxOk a882 x0.length)) (chk (!(!(((!((((gt x0 a882).fRef.fTx) == ((gt x1 a882).fRef.fTx)) && (((gt x0 a882).fRef.fAt) == ((gt x1 a882).fRef.fAt)))) || (((gt x0 a882).fHeight) != ((gt x1 a882).fHeight))) || (((gt x0 a882).fMined) != ((gt x1 a882).fMined)))) || (idxOk a882 x1.length)) (chk (!(!((((!((((gt x0 a882).fRef.fTx) == ((gt x1 a882).fRef.fTx)) && (((gt x0 a882).fRef.fAt) == ((gt x1 a882).fRef.fAt)))) || (((gt x0 a882).fHeight) != ((gt x1 a882).fHeight))) || (((gt x0 a882).fMined) != ((gt x1 a882).fMined))) || (((gt x0 a882).fOut.fValue) != ((gt x1 a882).fOut.fValue)))) || (idxOk a882 x0.length)) (chk (!(!((((!((((gt x0 a882).fRef.fTx) == ((gt x1 a882).fRef.fTx)) && (((gt x0 a882).fRef.fAt) == ((gt x1 a882).fRef.fAt)))) || (((gt x0 a882).fHeight) != ((gt x1 a882).fHeight))) || (((gt x0 a882).fMined) != ((gt x1 a882).fMined))) || (((gt x0 a882).fOut.fValue) != ((gt x1 a882).fOut.fValue)))) || (idxOk a882 x1.length)) ((bif (!((((!((((gt x0 a882).fRef.fTx) == ((gt x1 a882).fRef.fTx)) && (((gt x0 a882).fRef.fAt) == ((gt x1 a882).fRef.fAt)))) || (((gt x0 a882).fHeight) != ((gt x1 a882).fHeight))) || (((gt x0 a882).fMined) != ((gt x1 a882).fMined))) || (((gt x0 a882).fOut.fValue) != ((gt x1 a882).fOut.fValue)))) then spec_l2Same.f k ((gt x0 a882).fOut.fRule) ((gt x1 a882).fOut.fRule) else some default).bind fun t970 => (bif (((((!((((gt x0 a882).fRef.fTx) == ((gt x1 a882).fRef.fTx)) && (((gt x0 a882).fRef.fAt) == ((gt x1 a882).fRef.fAt)))) || (((gt x0 a882).fHeight) != ((gt x1 a882).fHeight))) || (((gt x0 a882).fMined) != ((gt x1 a882).fMined))) || (((gt x0 a882).fOut.fValue) != ((gt x1 a882).fOut.fValue))) || (!t970)) then some (.inl false) else spec_l4Same.l0 x0 x1 k (wrap64 (a882 + 1)))))))))))))) else some (.inr ()))
theorem spec_l4Same.l0_z (x0 : List Coin) (x1 : List Coin) (a882 : Int) : spec_l4Same.l0 x0 x1 0 a882 = none := rfl
theorem spec_l4Same.l0_s (x0 : List Coin) (x1 : List Coin) (k : Nat) (a882 : Int) : spec_l4Same.l0 x0 x1 (k + 1) a882 = (bif (decide (a882 < (x0.length : Int))) then (chk (idxOk a882 x0.length) (chk (idxOk a882 x1.length) (chk (!(!(!((((gt x0 a882).fRef.fTx) == ((gt x1 a882).fRef.fTx)) && (((gt x0 a882).fRef.fAt) == ((gt x1 a882).fRef.fAt))))) || (idxOk a882 x0.length)) (chk (!(!(!((((gt x0 a882).fRef.fTx) == ((gt x1 a882).fRef.fTx)) && (((gt x0 a882).fRef.fAt) == ((gt x1 a882).fRef.fAt))))) || (idxOk a882 x1.length)) (chk (!(!((!((((gt x0 a882).fRef.fTx) == ((gt x1 a882).fRef.fTx)) && (((gt x0 a882).fRef.fAt) == ((gt x1 a882).fRef.fAt)))) || (((gt x0 a882).fHeight) != ((gt x1 a882).fHeight)))) || (idxOk a882 x0.length)) (chk (!(!((!((((gt x0 a882).fRef.fTx) == ((gt x1 a882).fRef.fTx)) && (((gt x0 a882).fRef.fAt) == ((gt x1 a882).fRef.fAt)))) || (((gt x0 a882).fHeight) != ((gt x1 a882).fHeight)))) || (idxOk a882 x1.length)) (chk (!(!(((!((((gt x0 a882).fRef.fTx) == ((gt x1 a882).fRef.fTx)) && (((gt x0 a882).fRef.fAt) == ((gt x1 a882).fRef.fAt)))) || (((gt x0 a882).fHeight) != ((gt x1 a882).fHeight))) || (((gt x0 a882).fMined) != ((gt x1 a882).fMined)))) || (idxOk a882 x0.length)) (chk (!(!(((!((((gt x0 a882).fRef.fTx) == ((gt x1 a882).fRef.fTx)) && (((gt x0 a882).fRef.fAt) == ((gt x1 a882).fRef.fAt)))) || (((gt x0 a882).fHeight) != ((gt x1 a882).fHeight))) || (((gt x0 a882).fMined) != ((gt x1 a882).fMined)))) || (idxOk a882 x1.length)) (chk (!(!((((!((((gt x0 a882).fRef.fTx) == ((gt x1 a882).fRef.fTx)) && (((gt x0 a882).fRef.fAt) == ((gt x1 a882).fRef.fAt)))) || (((gt x0 a882).fHeight) != ((gt x1 a882).fHeight))) || (((gt x0 a882).fMined) != ((gt x1 a882).fMined))) || (((gt x0 a882).fOut.fValue) != ((gt x1 a882).fOut.fValue)))) || (idxOk a882 x0.length)) (chk (!(!((((!((((gt x0 a882).fRef.fTx) == ((gt x1 a882).fRef.fTx)) && (((gt x0 a882).fRef.fAt) == ((gt x1 a882).fRef.fAt)))) || (((gt x0 a882).fHeight) != ((gt x1 a882).fHeight))) || (((gt x0 a882).fMined) != ((gt x1 a882).fMined))) || (((gt x0 a882).fOut.fValue) != ((gt x1 a882).fOut.fValue)))) || (idxOk a882 x1.length)) ((bif (!((((!((((gt x0 a882).fRef.fTx) == ((gt x1 a882).fRef.fTx)) && (((gt x0 a882).fRef.fAt) == ((gt x1 a882).fRef.fAt)))) || (((gt x0 a882).fHeight) != ((gt x1 a882).fHeight))) || (((gt x0 a882).fMined) != ((gt x1 a882).fMined))) || (((gt x0 a882).fOut.fValue) != ((gt x1 a882).fOut.fValue)))) then spec_l2Same.f k ((gt x0 a882).fOut.fRule) ((gt x1 a882).fOut.fRule) else some default).bind fun t970 => (bif (((((!((((gt x0 a882).fRef.fTx) == ((gt x1 a882).fRef.fTx)) && (((gt x0 a882).fRef.fAt) == ((gt x1 a882).fRef.fAt)))) || (((gt x0 a882).fHeight) != ((gt x1 a882).fHeight))) || (((gt x0 a882).fMined) != ((gt x1 a882).fMined))) || (((gt x0 a882).fOut.fValue) != ((gt x1 a882).fOut.fValue))) || (!t970)) then some (.inl false) else spec_l4Same.l0 x0 x1 k (wrap64 (a882 + 1)))))))))))))) else some (.inr ())) := rfl
def spec_l4Same.f (k : Nat) (x0 : List Coin) (x1 : List Coin) : Option Bool := (bif ((x0.length : Int) != (x1.length : Int)) then some false else ((spec_l4Same.l0 x0 x1 k 0).bind fun o836 => thn o836 (fun r => some r) (fun _ => some true)))
theorem spec_l4Same.calls {k : Nat} {x0 : List Coin} {x1 : List Coin} {p0 : Value} {p1 : Value} {w : World} (hp0 : RdS kCoin w p0 x0) (hp1 : RdS kCoin w p1 x1) {r : Bool} (H : spec_l4Same.f k x0 x1 = some r) :
    Calls Try.prog 63 ([p0, p1] : List Value).toArray w (fun e w_ => ∃ v, e = .returned v ∧ v = (.bool r) ∧ Mem w [] w_ []) := by
  have HM := Mem.start w
  refine calls_run (N := 83) Try.func63 rfl rfl rfl rfl ?_
  unfold spec_l4Same.f at H
  refine run_seq ?_
  refine run_region rfl ?_
  refine ops_ex rfl (guard_none rfl) rfl rfl (ex_assign rfl rfl) ?_
  refine ops_nil ?_
  refine at_then ?_
  refine run_seq ?_
  refine run_seq ?_
  refine run_region rfl ?_
  refine ops_ex rfl (guard_none rfl) rfl rfl (ex_move rfl rfl) ?_
  refine ops_ex rfl (guard_none rfl) rfl rfl (ex_len (d := kCoin) (xs := x0) rfl rfl Try.underlying25 hp0) ?_
  refine ops_ex rfl (guard_none rfl) rfl rfl (ex_move rfl rfl) ?_
  refine ops_ex rfl (guard_none rfl) rfl rfl (ex_len (d := kCoin) (xs := x1) rfl rfl Try.underlying25 hp1) ?_
  refine ops_ex rfl (guard_none rfl) rfl rfl (ex_neq rfl rfl rfl) ?_
  refine ops_nil ?_
  refine at_then ?_
  refine run_cond (b := ((x0.length : Int) != (x1.length : Int))) rfl (fun hb702 => ?_) (fun hb702 => ?_)
  · replace H := cond_t hb702 H
    refine run_seq ?_
    refine run_region rfl ?_
    refine ops_ex rfl (guard_none rfl) rfl rfl (ex_assign rfl rfl) ?_
    refine ops_nil ?_
    refine at_then ?_
    refine run_ret ?_
    refine at_then_ret ?_
    have hR := Option.some.inj H
    subst hR
    exact at_ret1 rfl rfl ⟨_, rfl, rfl, HM⟩
  · replace H := cond_f hb702 H
    refine run_skip ?_
    refine at_then ?_
    obtain ⟨o836, ho837, H⟩ := bind_some H
    refine run_mid (fun ρ_ w_ => Sum.inr () = o836 ∧ ρ_ = [] ∧ Mem w [] w_ []) ?_ ?_
    · skip
      refine run_seq ?_
      refine run_region rfl ?_
      refine ops_ex rfl (guard_none rfl) rfl rfl (ex_assign rfl rfl) ?_
      refine ops_nil ?_
      refine at_then ?_
      refine run_block ?_
      refine run_loop (fun k_ ρ_ w_ => ∃ a882 : Int, spec_l4Same.l0 x0 x1 k_ a882 = some o836 ∧ ρ_ = [(0, p0), (1, p1), (5, .int .i64 a882)] ∧ Mem w [] w_ []) k (ρ1 := [(0, p0), (1, p1), (5, .int .i64 0)]) ⟨_, ho837, rfl, HM⟩ (Sub.cons rfl (Sub.cons rfl (Sub.cons rfl Sub.nil))) ?_
      clear HM ho837
      rintro k927 _ w928 ⟨a882, ho837, rfl, HM⟩
      obtain _ | k927 := k927
      · exact nomatch ((spec_l4Same.l0_z x0 x1 a882).symm.trans ho837)
      replace ho837 := (spec_l4Same.l0_s x0 x1 k927 a882).symm.trans ho837
      refine run_seq ?_
      refine run_seq ?_
      refine run_region rfl ?_
      refine ops_ex rfl (guard_none rfl) rfl rfl (ex_move rfl rfl) ?_
      refine ops_ex rfl (guard_none rfl) rfl rfl (ex_move rfl rfl) ?_
      refine ops_ex rfl (guard_none rfl) rfl rfl (ex_len (d := kCoin) (xs := x0) rfl rfl Try.underlying25 hp0) ?_
      refine ops_ex rfl (guard_none rfl) rfl rfl (ex_lss rfl rfl rfl) ?_
      refine ops_nil ?_
      refine at_then ?_
      refine run_cond (b := (decide (a882 < (x0.length : Int)))) rfl (fun hb929 => ?_) (fun hb929 => ?_)
      · replace ho837 := cond_t hb929 ho837
        refine run_skip ?_
        refine at_then ?_
        refine run_seq ?_
        refine run_block ?_
        refine run_seq ?_
        obtain ⟨e930, ho837⟩ := chk_some ho837
        obtain ⟨e934, ho837⟩ := chk_some ho837
        obtain ⟨e938, ho837⟩ := chk_some ho837
        obtain ⟨e942, ho837⟩ := chk_some ho837
        obtain ⟨e946, ho837⟩ := chk_some ho837
        obtain ⟨e950, ho837⟩ := chk_some ho837
        obtain ⟨e954, ho837⟩ := chk_some ho837
        obtain ⟨e958, ho837⟩ := chk_some ho837
        obtain ⟨e962, ho837⟩ := chk_some ho837
        obtain ⟨e966, ho837⟩ := chk_some ho837
        obtain ⟨t970, h971, ho837⟩ := bind_some ho837
        refine run_meet (fun ρ_ w_ => ρ_ = [(0, p0), (1, p1), (5, .int .i64 a882), (82, .bool (((((!((((gt x0 a882).fRef.fTx) == ((gt x1 a882).fRef.fTx)) && (((gt x0 a882).fRef.fAt) == ((gt x1 a882).fRef.fAt)))) || (((gt x0 a882).fHeight) != ((gt x1 a882).fHeight))) || (((gt x0 a882).fMined) != ((gt x1 a882).fMined))) || (((gt x0 a882).fOut.fValue) != ((gt x1 a882).fOut.fValue))) || (!t970)))] ∧ Mem w [] w_ []) ?_ ?_
        · skip
          refine run_drawf (fun w_ => Mem w [] w_ []) [(0, true), (1, true), (2, true), (3, true), (4, true), (5, true), (6, true), (7, true), (8, true), (9, true), (10, true), (11, true), (12, true), (13, true), (14, true), (15, true), (16, true), (17, true), (18, true), (19, true), (20, true), (21, true), (22, true), (23, true), (24, true), (25, true), (26, true), (27, true), (28, true), (29, true), (30, true), (31, true), (32, true), (33, true), (34, true), (35, true), (36, true), (37, true), (38, true), (39, true), (40, true), (41, true), (42, true), (43, true), (44, true), (45, true), (46, true), (47, true), (48, true), (49, true), (50, true), (51, true), (52, true), (53, true), (54, true), (55, true), (56, true), (57, true), (58, true), (59, true), (60, true), (61, true), (62, true), (63, false), (64, true), (65, true)] mixed rfl rfl (by kernel_rfl) ?_
          replace HM := HM.grow (fr_drew _)
          have hS := Mem.suf (M := []) HM
          refine drwp_take rfl (guard_none rfl) rfl rfl (fun w_ hS_ => (ex_move rfl rfl)) hS ?_
          refine drwp_take rfl (guard_none rfl) rfl rfl (fun w_ hS_ => (ex_move rfl rfl)) hS ?_
          obtain ⟨kv932, hc931, hk933⟩ : ∃ u, CellsAt _ (sb p0) (so p0 + (a882).toNat * 8) [(.int .i64 ((gt x0 a882).fRef.fTx)), (.int .i64 ((gt x0 a882).fRef.fAt)), (.int .i64 ((gt x0 a882).fOut.fValue)), u, (.int .i64 ((gt x0 a882).fOut.fRule.fNeed)), (.int .i64 ((gt x0 a882).fOut.fRule.fAfter)), (.int .i64 ((gt x0 a882).fHeight)), (.bool ((gt x0 a882).fMined))] ∧ RdS kInt _ u ((gt x0 a882).fOut.fRule.fKeys) := rd_with1 hp0 e930
          refine drwp_take rfl (guard_none rfl) rfl rfl (fun w_ hS_ => (ex_indexAddr (d := kCoin) rfl rfl rfl Try.underlying25 tsz104 hp0 (idx_lo e930) (idx_hi e930))) hS ?_
          refine drwp_take rfl (guard_none rfl) rfl rfl (fun w_ hS_ => (ex_fieldAddr (off' := so p0 + (a882).toNat * 8) rfl rfl Try.underlying104 rfl tsz99 rfl)) hS ?_
          refine drwp_take rfl (guard_none rfl) rfl rfl (fun w_ hS_ => (ex_loadN (cs := [(.int .i64 ((gt x0 a882).fRef.fTx)), (.int .i64 ((gt x0 a882).fRef.fAt))]) rfl rfl Try.underlying99 rfl tsz99 rfl ((hS_.at_ hc931).sub 0 2 rfl))) hS ?_
          refine drwp_take rfl (guard_none rfl) rfl rfl (fun w_ hS_ => (ex_move rfl rfl)) hS ?_
          refine drwp_take rfl (guard_none rfl) rfl rfl (fun w_ hS_ => (ex_move rfl rfl)) hS ?_
          obtain ⟨kv936, hc935, hk937⟩ : ∃ u, CellsAt _ (sb p1) (so p1 + (a882).toNat * 8) [(.int .i64 ((gt x1 a882).fRef.fTx)), (.int .i64 ((gt x1 a882).fRef.fAt)), (.int .i64 ((gt x1 a882).fOut.fValue)), u, (.int .i64 ((gt x1 a882).fOut.fRule.fNeed)), (.int .i64 ((gt x1 a882).fOut.fRule.fAfter)), (.int .i64 ((gt x1 a882).fHeight)), (.bool ((gt x1 a882).fMined))] ∧ RdS kInt _ u ((gt x1 a882).fOut.fRule.fKeys) := rd_with1 hp1 e934
          refine drwp_take rfl (guard_none rfl) rfl rfl (fun w_ hS_ => (ex_indexAddr (d := kCoin) rfl rfl rfl Try.underlying25 tsz104 hp1 (idx_lo e934) (idx_hi e934))) hS ?_
          refine drwp_take rfl (guard_none rfl) rfl rfl (fun w_ hS_ => (ex_fieldAddr (off' := so p1 + (a882).toNat * 8) rfl rfl Try.underlying104 rfl tsz99 rfl)) hS ?_
          refine drwp_take rfl (guard_none rfl) rfl rfl (fun w_ hS_ => (ex_loadN (cs := [(.int .i64 ((gt x1 a882).fRef.fTx)), (.int .i64 ((gt x1 a882).fRef.fAt))]) rfl rfl Try.underlying99 rfl tsz99 rfl ((hS_.at_ hc935).sub 0 2 rfl))) hS ?_
          refine drwp_take rfl (guard_none rfl) rfl rfl (fun w_ hS_ => (ex_aneq rfl rfl rfl (by kernel_rfl) (eqs99 _ _ _ _ _))) hS ?_
          refine drwp_take rfl (guard_none rfl) rfl rfl (fun w_ hS_ => (ex_move rfl rfl)) hS ?_
          refine bool_cases (!((((gt x0 a882).fRef.fTx) == ((gt x1 a882).fRef.fTx)) && (((gt x0 a882).fRef.fAt) == ((gt x1 a882).fRef.fAt)))) (fun hg972 => ?_) (fun hg972 => ?_)
          · skip
            refine drwp_off rfl (guard_off rfl rfl rfl hg972) rfl rfl hS ?_
            refine drwp_off rfl (guard_off rfl rfl rfl hg972) rfl rfl hS ?_
            refine drwp_off rfl (guard_off rfl rfl rfl hg972) rfl rfl hS ?_
            refine drwp_off rfl (guard_off rfl rfl rfl hg972) rfl rfl hS ?_
            refine drwp_off rfl (guard_off rfl rfl rfl hg972) rfl rfl hS ?_
            refine drwp_off rfl (guard_off rfl rfl rfl hg972) rfl rfl hS ?_
            refine drwp_off rfl (guard_off rfl rfl rfl hg972) rfl rfl hS ?_
            refine drwp_off rfl (guard_off rfl rfl rfl hg972) rfl rfl hS ?_
            refine drwp_off rfl (guard_off rfl rfl rfl hg972) rfl rfl hS ?_
            refine drwp_off rfl (guard_off rfl rfl rfl hg972) rfl rfl hS ?_
            refine drwp_off rfl (guard_off rfl rfl rfl hg972) rfl rfl hS ?_
            have hg973 : ((!((((gt x0 a882).fRef.fTx) == ((gt x1 a882).fRef.fTx)) && (((gt x0 a882).fRef.fAt) == ((gt x1 a882).fRef.fAt)))) || (((gt x0 a882).fHeight) != ((gt x1 a882).fHeight))) = true := by simp only [hg972, Bool.and_true, Bool.true_and, Bool.and_false, Bool.false_and, Bool.or_true, Bool.true_or, Bool.or_false, Bool.false_or, Bool.not_true, Bool.not_false, Bool.not_not]
            refine drwp_take (v := .bool ((!((((gt x0 a882).fRef.fTx) == ((gt x1 a882).fRef.fTx)) && (((gt x0 a882).fRef.fAt) == ((gt x1 a882).fRef.fAt)))) || (((gt x0 a882).fHeight) != ((gt x1 a882).fHeight)))) rfl (guard_none rfl) rfl rfl (fun w_ hS_ => (ex_por_t rfl rfl hg972)) hS ?_
            refine drwp_take rfl (guard_none rfl) rfl rfl (fun w_ hS_ => (ex_move rfl rfl)) hS ?_
            refine drwp_off rfl (guard_off rfl rfl rfl hg973) rfl rfl hS ?_
            refine drwp_off rfl (guard_off rfl rfl rfl hg973) rfl rfl hS ?_
            refine drwp_off rfl (guard_off rfl rfl rfl hg973) rfl rfl hS ?_
            refine drwp_off rfl (guard_off rfl rfl rfl hg973) rfl rfl hS ?_
            refine drwp_off rfl (guard_off rfl rfl rfl hg973) rfl rfl hS ?_
            refine drwp_off rfl (guard_off rfl rfl rfl hg973) rfl rfl hS ?_
            refine drwp_off rfl (guard_off rfl rfl rfl hg973) rfl rfl hS ?_
            refine drwp_off rfl (guard_off rfl rfl rfl hg973) rfl rfl hS ?_
            refine drwp_off rfl (guard_off rfl rfl rfl hg973) rfl rfl hS ?_
            refine drwp_off rfl (guard_off rfl rfl rfl hg973) rfl rfl hS ?_
            refine drwp_off rfl (guard_off rfl rfl rfl hg973) rfl rfl hS ?_
            have hg974 : (((!((((gt x0 a882).fRef.fTx) == ((gt x1 a882).fRef.fTx)) && (((gt x0 a882).fRef.fAt) == ((gt x1 a882).fRef.fAt)))) || (((gt x0 a882).fHeight) != ((gt x1 a882).fHeight))) || (((gt x0 a882).fMined) != ((gt x1 a882).fMined))) = true := by simp only [hg973, Bool.and_true, Bool.true_and, Bool.and_false, Bool.false_and, Bool.or_true, Bool.true_or, Bool.or_false, Bool.false_or, Bool.not_true, Bool.not_false, Bool.not_not]
            refine drwp_take (v := .bool (((!((((gt x0 a882).fRef.fTx) == ((gt x1 a882).fRef.fTx)) && (((gt x0 a882).fRef.fAt) == ((gt x1 a882).fRef.fAt)))) || (((gt x0 a882).fHeight) != ((gt x1 a882).fHeight))) || (((gt x0 a882).fMined) != ((gt x1 a882).fMined)))) rfl (guard_none rfl) rfl rfl (fun w_ hS_ => (ex_por_t rfl rfl hg973)) hS ?_
            refine drwp_take rfl (guard_none rfl) rfl rfl (fun w_ hS_ => (ex_move rfl rfl)) hS ?_
            refine drwp_off rfl (guard_off rfl rfl rfl hg974) rfl rfl hS ?_
            refine drwp_off rfl (guard_off rfl rfl rfl hg974) rfl rfl hS ?_
            refine drwp_off rfl (guard_off rfl rfl rfl hg974) rfl rfl hS ?_
            refine drwp_off rfl (guard_off rfl rfl rfl hg974) rfl rfl hS ?_
            refine drwp_off rfl (guard_off rfl rfl rfl hg974) rfl rfl hS ?_
            refine drwp_off rfl (guard_off rfl rfl rfl hg974) rfl rfl hS ?_
            refine drwp_off rfl (guard_off rfl rfl rfl hg974) rfl rfl hS ?_
            refine drwp_off rfl (guard_off rfl rfl rfl hg974) rfl rfl hS ?_
            refine drwp_off rfl (guard_off rfl rfl rfl hg974) rfl rfl hS ?_
            refine drwp_off rfl (guard_off rfl rfl rfl hg974) rfl rfl hS ?_
            refine drwp_off rfl (guard_off rfl rfl rfl hg974) rfl rfl hS ?_
            refine drwp_off rfl (guard_off rfl rfl rfl hg974) rfl rfl hS ?_
            refine drwp_off rfl (guard_off rfl rfl rfl hg974) rfl rfl hS ?_
            have hg975 : ((((!((((gt x0 a882).fRef.fTx) == ((gt x1 a882).fRef.fTx)) && (((gt x0 a882).fRef.fAt) == ((gt x1 a882).fRef.fAt)))) || (((gt x0 a882).fHeight) != ((gt x1 a882).fHeight))) || (((gt x0 a882).fMined) != ((gt x1 a882).fMined))) || (((gt x0 a882).fOut.fValue) != ((gt x1 a882).fOut.fValue))) = true := by simp only [hg974, Bool.and_true, Bool.true_and, Bool.and_false, Bool.false_and, Bool.or_true, Bool.true_or, Bool.or_false, Bool.false_or, Bool.not_true, Bool.not_false, Bool.not_not]
            refine drwp_take (v := .bool ((((!((((gt x0 a882).fRef.fTx) == ((gt x1 a882).fRef.fTx)) && (((gt x0 a882).fRef.fAt) == ((gt x1 a882).fRef.fAt)))) || (((gt x0 a882).fHeight) != ((gt x1 a882).fHeight))) || (((gt x0 a882).fMined) != ((gt x1 a882).fMined))) || (((gt x0 a882).fOut.fValue) != ((gt x1 a882).fOut.fValue)))) rfl (guard_none rfl) rfl rfl (fun w_ hS_ => (ex_por_t rfl rfl hg974)) hS ?_
            refine drwp_take rfl (guard_none rfl) rfl rfl (fun w_ hS_ => (ex_move rfl rfl)) hS ?_
            refine drwp_off rfl (guard_off rfl rfl rfl hg975) rfl rfl hS ?_
            refine drwp_off rfl (guard_off rfl rfl rfl hg975) rfl rfl hS ?_
            refine drwp_off rfl (guard_off rfl rfl rfl hg975) rfl rfl hS ?_
            refine drwp_off rfl (guard_off rfl rfl rfl hg975) rfl rfl hS ?_
            refine drwp_off rfl (guard_off rfl rfl rfl hg975) rfl rfl hS ?_
            refine drwp_off rfl (guard_off rfl rfl rfl hg975) rfl rfl hS ?_
            refine drwp_off rfl (guard_off rfl rfl rfl hg975) rfl rfl hS ?_
            refine drwp_off rfl (guard_off rfl rfl rfl hg975) rfl rfl hS ?_
            refine drwp_off rfl (guard_off rfl rfl rfl hg975) rfl rfl hS ?_
            refine drwp_off rfl (guard_off rfl rfl rfl hg975) rfl rfl hS ?_
            refine drwp_off1 rfl (guard_off rfl rfl rfl hg975) rfl rfl ⟨hS, ?_⟩
            refine drwp_off rfl (guard_off rfl rfl rfl hg975) rfl rfl hS ?_
            have hg976 : (((((!((((gt x0 a882).fRef.fTx) == ((gt x1 a882).fRef.fTx)) && (((gt x0 a882).fRef.fAt) == ((gt x1 a882).fRef.fAt)))) || (((gt x0 a882).fHeight) != ((gt x1 a882).fHeight))) || (((gt x0 a882).fMined) != ((gt x1 a882).fMined))) || (((gt x0 a882).fOut.fValue) != ((gt x1 a882).fOut.fValue))) || (!t970)) = true := by simp only [hg975, Bool.and_true, Bool.true_and, Bool.and_false, Bool.false_and, Bool.or_true, Bool.true_or, Bool.or_false, Bool.false_or, Bool.not_true, Bool.not_false, Bool.not_not]
            refine drwp_take (v := .bool (((((!((((gt x0 a882).fRef.fTx) == ((gt x1 a882).fRef.fTx)) && (((gt x0 a882).fRef.fAt) == ((gt x1 a882).fRef.fAt)))) || (((gt x0 a882).fHeight) != ((gt x1 a882).fHeight))) || (((gt x0 a882).fMined) != ((gt x1 a882).fMined))) || (((gt x0 a882).fOut.fValue) != ((gt x1 a882).fOut.fValue))) || (!t970))) rfl (guard_none rfl) rfl rfl (fun w_ hS_ => (ex_por_t rfl rfl hg975)) hS ?_
            refine drwp_done ?_
            exact at_meet [(0, p0), (1, p1), (5, .int .i64 a882), (82, .bool (((((!((((gt x0 a882).fRef.fTx) == ((gt x1 a882).fRef.fTx)) && (((gt x0 a882).fRef.fAt) == ((gt x1 a882).fRef.fAt)))) || (((gt x0 a882).fHeight) != ((gt x1 a882).fHeight))) || (((gt x0 a882).fMined) != ((gt x1 a882).fMined))) || (((gt x0 a882).fOut.fValue) != ((gt x1 a882).fOut.fValue))) || (!t970)))] ⟨rfl, HM⟩ (Sub.cons rfl (Sub.cons rfl (Sub.cons rfl (Sub.cons rfl Sub.nil))))
          · skip
            refine drwp_take rfl (guard_on rfl rfl rfl hg972) rfl rfl (fun w_ hS_ => (ex_move rfl rfl)) hS ?_
            refine drwp_take rfl (guard_on rfl rfl rfl hg972) rfl rfl (fun w_ hS_ => (ex_move rfl rfl)) hS ?_
            obtain ⟨kv940, hc939, hk941⟩ : ∃ u, CellsAt _ (sb p0) (so p0 + (a882).toNat * 8) [(.int .i64 ((gt x0 a882).fRef.fTx)), (.int .i64 ((gt x0 a882).fRef.fAt)), (.int .i64 ((gt x0 a882).fOut.fValue)), u, (.int .i64 ((gt x0 a882).fOut.fRule.fNeed)), (.int .i64 ((gt x0 a882).fOut.fRule.fAfter)), (.int .i64 ((gt x0 a882).fHeight)), (.bool ((gt x0 a882).fMined))] ∧ RdS kInt _ u ((gt x0 a882).fOut.fRule.fKeys) := rd_with1 hp0 (or_t e938 (not_mk hg972))
            refine drwp_take rfl (guard_on rfl rfl rfl hg972) rfl rfl (fun w_ hS_ => (ex_indexAddr (d := kCoin) rfl rfl rfl Try.underlying25 tsz104 hp0 (idx_lo (or_t e938 (not_mk hg972))) (idx_hi (or_t e938 (not_mk hg972))))) hS ?_
            refine drwp_take rfl (guard_on rfl rfl rfl hg972) rfl rfl (fun w_ hS_ => (ex_fieldAddr (off' := so p0 + (a882).toNat * 8 + 6) rfl rfl Try.underlying104 rfl tsz2 rfl)) hS ?_
            refine drwp_take rfl (guard_on rfl rfl rfl hg972) rfl rfl (fun w_ hS_ => (ex_load1 rfl rfl Try.underlying2 rfl ((hS_.at_ hc939) 6 _ rfl))) hS ?_
            refine drwp_take rfl (guard_on rfl rfl rfl hg972) rfl rfl (fun w_ hS_ => (ex_move rfl rfl)) hS ?_
            refine drwp_take rfl (guard_on rfl rfl rfl hg972) rfl rfl (fun w_ hS_ => (ex_move rfl rfl)) hS ?_
            obtain ⟨kv944, hc943, hk945⟩ : ∃ u, CellsAt _ (sb p1) (so p1 + (a882).toNat * 8) [(.int .i64 ((gt x1 a882).fRef.fTx)), (.int .i64 ((gt x1 a882).fRef.fAt)), (.int .i64 ((gt x1 a882).fOut.fValue)), u, (.int .i64 ((gt x1 a882).fOut.fRule.fNeed)), (.int .i64 ((gt x1 a882).fOut.fRule.fAfter)), (.int .i64 ((gt x1 a882).fHeight)), (.bool ((gt x1 a882).fMined))] ∧ RdS kInt _ u ((gt x1 a882).fOut.fRule.fKeys) := rd_with1 hp1 (or_t e942 (not_mk hg972))
            refine drwp_take rfl (guard_on rfl rfl rfl hg972) rfl rfl (fun w_ hS_ => (ex_indexAddr (d := kCoin) rfl rfl rfl Try.underlying25 tsz104 hp1 (idx_lo (or_t e942 (not_mk hg972))) (idx_hi (or_t e942 (not_mk hg972))))) hS ?_
            refine drwp_take rfl (guard_on rfl rfl rfl hg972) rfl rfl (fun w_ hS_ => (ex_fieldAddr (off' := so p1 + (a882).toNat * 8 + 6) rfl rfl Try.underlying104 rfl tsz2 rfl)) hS ?_
            refine drwp_take rfl (guard_on rfl rfl rfl hg972) rfl rfl (fun w_ hS_ => (ex_load1 rfl rfl Try.underlying2 rfl ((hS_.at_ hc943) 6 _ rfl))) hS ?_
            refine drwp_take rfl (guard_on rfl rfl rfl hg972) rfl rfl (fun w_ hS_ => (ex_neq rfl rfl rfl)) hS ?_
            refine drwp_take (v := .bool ((!((((gt x0 a882).fRef.fTx) == ((gt x1 a882).fRef.fTx)) && (((gt x0 a882).fRef.fAt) == ((gt x1 a882).fRef.fAt)))) || (((gt x0 a882).fHeight) != ((gt x1 a882).fHeight)))) rfl (guard_none rfl) rfl rfl (fun w_ hS_ => (ex_por_f rfl rfl hg972 rfl)) hS ?_
            refine drwp_take rfl (guard_none rfl) rfl rfl (fun w_ hS_ => (ex_move rfl rfl)) hS ?_
            refine bool_cases ((!((((gt x0 a882).fRef.fTx) == ((gt x1 a882).fRef.fTx)) && (((gt x0 a882).fRef.fAt) == ((gt x1 a882).fRef.fAt)))) || (((gt x0 a882).fHeight) != ((gt x1 a882).fHeight))) (fun hg977 => ?_) (fun hg977 => ?_)
            · skip
              refine drwp_off rfl (guard_off rfl rfl rfl hg977) rfl rfl hS ?_
              refine drwp_off rfl (guard_off rfl rfl rfl hg977) rfl rfl hS ?_
              refine drwp_off rfl (guard_off rfl rfl rfl hg977) rfl rfl hS ?_
              refine drwp_off rfl (guard_off rfl rfl rfl hg977) rfl rfl hS ?_
              refine drwp_off rfl (guard_off rfl rfl rfl hg977) rfl rfl hS ?_
              refine drwp_off rfl (guard_off rfl rfl rfl hg977) rfl rfl hS ?_
              refine drwp_off rfl (guard_off rfl rfl rfl hg977) rfl rfl hS ?_
              refine drwp_off rfl (guard_off rfl rfl rfl hg977) rfl rfl hS ?_
              refine drwp_off rfl (guard_off rfl rfl rfl hg977) rfl rfl hS ?_
              refine drwp_off rfl (guard_off rfl rfl rfl hg977) rfl rfl hS ?_
              refine drwp_off rfl (guard_off rfl rfl rfl hg977) rfl rfl hS ?_
              have hg978 : (((!((((gt x0 a882).fRef.fTx) == ((gt x1 a882).fRef.fTx)) && (((gt x0 a882).fRef.fAt) == ((gt x1 a882).fRef.fAt)))) || (((gt x0 a882).fHeight) != ((gt x1 a882).fHeight))) || (((gt x0 a882).fMined) != ((gt x1 a882).fMined))) = true := by simp only [hg977, Bool.and_true, Bool.true_and, Bool.and_false, Bool.false_and, Bool.or_true, Bool.true_or, Bool.or_false, Bool.false_or, Bool.not_true, Bool.not_false, Bool.not_not]
              refine drwp_take (v := .bool (((!((((gt x0 a882).fRef.fTx) == ((gt x1 a882).fRef.fTx)) && (((gt x0 a882).fRef.fAt) == ((gt x1 a882).fRef.fAt)))) || (((gt x0 a882).fHeight) != ((gt x1 a882).fHeight))) || (((gt x0 a882).fMined) != ((gt x1 a882).fMined)))) rfl (guard_none rfl) rfl rfl (fun w_ hS_ => (ex_por_t rfl rfl hg977)) hS ?_
              refine drwp_take rfl (guard_none rfl) rfl rfl (fun w_ hS_ => (ex_move rfl rfl)) hS ?_
              refine drwp_off rfl (guard_off rfl rfl rfl hg978) rfl rfl hS ?_
              refine drwp_off rfl (guard_off rfl rfl rfl hg978) rfl rfl hS ?_
              refine drwp_off rfl (guard_off rfl rfl rfl hg978) rfl rfl hS ?_
              refine drwp_off rfl (guard_off rfl rfl rfl hg978) rfl rfl hS ?_
              refine drwp_off rfl (guard_off rfl rfl rfl hg978) rfl rfl hS ?_
              refine drwp_off rfl (guard_off rfl rfl rfl hg978) rfl rfl hS ?_
              refine drwp_off rfl (guard_off rfl rfl rfl hg978) rfl rfl hS ?_
              refine drwp_off rfl (guard_off rfl rfl rfl hg978) rfl rfl hS ?_
              refine drwp_off rfl (guard_off rfl rfl rfl hg978) rfl rfl hS ?_
              refine drwp_off rfl (guard_off rfl rfl rfl hg978) rfl rfl hS ?_
              refine drwp_off rfl (guard_off rfl rfl rfl hg978) rfl rfl hS ?_
              refine drwp_off rfl (guard_off rfl rfl rfl hg978) rfl rfl hS ?_
              refine drwp_off rfl (guard_off rfl rfl rfl hg978) rfl rfl hS ?_
              have hg979 : ((((!((((gt x0 a882).fRef.fTx) == ((gt x1 a882).fRef.fTx)) && (((gt x0 a882).fRef.fAt) == ((gt x1 a882).fRef.fAt)))) || (((gt x0 a882).fHeight) != ((gt x1 a882).fHeight))) || (((gt x0 a882).fMined) != ((gt x1 a882).fMined))) || (((gt x0 a882).fOut.fValue) != ((gt x1 a882).fOut.fValue))) = true := by simp only [hg978, Bool.and_true, Bool.true_and, Bool.and_false, Bool.false_and, Bool.or_true, Bool.true_or, Bool.or_false, Bool.false_or, Bool.not_true, Bool.not_false, Bool.not_not]
              refine drwp_take (v := .bool ((((!((((gt x0 a882).fRef.fTx) == ((gt x1 a882).fRef.fTx)) && (((gt x0 a882).fRef.fAt) == ((gt x1 a882).fRef.fAt)))) || (((gt x0 a882).fHeight) != ((gt x1 a882).fHeight))) || (((gt x0 a882).fMined) != ((gt x1 a882).fMined))) || (((gt x0 a882).fOut.fValue) != ((gt x1 a882).fOut.fValue)))) rfl (guard_none rfl) rfl rfl (fun w_ hS_ => (ex_por_t rfl rfl hg978)) hS ?_
              refine drwp_take rfl (guard_none rfl) rfl rfl (fun w_ hS_ => (ex_move rfl rfl)) hS ?_
              refine drwp_off rfl (guard_off rfl rfl rfl hg979) rfl rfl hS ?_
              refine drwp_off rfl (guard_off rfl rfl rfl hg979) rfl rfl hS ?_
              refine drwp_off rfl (guard_off rfl rfl rfl hg979) rfl rfl hS ?_
              refine drwp_off rfl (guard_off rfl rfl rfl hg979) rfl rfl hS ?_
              refine drwp_off rfl (guard_off rfl rfl rfl hg979) rfl rfl hS ?_
              refine drwp_off rfl (guard_off rfl rfl rfl hg979) rfl rfl hS ?_
              refine drwp_off rfl (guard_off rfl rfl rfl hg979) rfl rfl hS ?_
              refine drwp_off rfl (guard_off rfl rfl rfl hg979) rfl rfl hS ?_
              refine drwp_off rfl (guard_off rfl rfl rfl hg979) rfl rfl hS ?_
              refine drwp_off rfl (guard_off rfl rfl rfl hg979) rfl rfl hS ?_
              refine drwp_off1 rfl (guard_off rfl rfl rfl hg979) rfl rfl ⟨hS, ?_⟩
              refine drwp_off rfl (guard_off rfl rfl rfl hg979) rfl rfl hS ?_
              have hg980 : (((((!((((gt x0 a882).fRef.fTx) == ((gt x1 a882).fRef.fTx)) && (((gt x0 a882).fRef.fAt) == ((gt x1 a882).fRef.fAt)))) || (((gt x0 a882).fHeight) != ((gt x1 a882).fHeight))) || (((gt x0 a882).fMined) != ((gt x1 a882).fMined))) || (((gt x0 a882).fOut.fValue) != ((gt x1 a882).fOut.fValue))) || (!t970)) = true := by simp only [hg979, Bool.and_true, Bool.true_and, Bool.and_false, Bool.false_and, Bool.or_true, Bool.true_or, Bool.or_false, Bool.false_or, Bool.not_true, Bool.not_false, Bool.not_not]
              refine drwp_take (v := .bool (((((!((((gt x0 a882).fRef.fTx) == ((gt x1 a882).fRef.fTx)) && (((gt x0 a882).fRef.fAt) == ((gt x1 a882).fRef.fAt)))) || (((gt x0 a882).fHeight) != ((gt x1 a882).fHeight))) || (((gt x0 a882).fMined) != ((gt x1 a882).fMined))) || (((gt x0 a882).fOut.fValue) != ((gt x1 a882).fOut.fValue))) || (!t970))) rfl (guard_none rfl) rfl rfl (fun w_ hS_ => (ex_por_t rfl rfl hg979)) hS ?_
              refine drwp_done ?_
              exact at_meet [(0, p0), (1, p1), (5, .int .i64 a882), (82, .bool (((((!((((gt x0 a882).fRef.fTx) == ((gt x1 a882).fRef.fTx)) && (((gt x0 a882).fRef.fAt) == ((gt x1 a882).fRef.fAt)))) || (((gt x0 a882).fHeight) != ((gt x1 a882).fHeight))) || (((gt x0 a882).fMined) != ((gt x1 a882).fMined))) || (((gt x0 a882).fOut.fValue) != ((gt x1 a882).fOut.fValue))) || (!t970)))] ⟨rfl, HM⟩ (Sub.cons rfl (Sub.cons rfl (Sub.cons rfl (Sub.cons rfl Sub.nil))))
            · skip
              refine drwp_take rfl (guard_on rfl rfl rfl hg977) rfl rfl (fun w_ hS_ => (ex_move rfl rfl)) hS ?_
              refine drwp_take rfl (guard_on rfl rfl rfl hg977) rfl rfl (fun w_ hS_ => (ex_move rfl rfl)) hS ?_
              obtain ⟨kv948, hc947, hk949⟩ : ∃ u, CellsAt _ (sb p0) (so p0 + (a882).toNat * 8) [(.int .i64 ((gt x0 a882).fRef.fTx)), (.int .i64 ((gt x0 a882).fRef.fAt)), (.int .i64 ((gt x0 a882).fOut.fValue)), u, (.int .i64 ((gt x0 a882).fOut.fRule.fNeed)), (.int .i64 ((gt x0 a882).fOut.fRule.fAfter)), (.int .i64 ((gt x0 a882).fHeight)), (.bool ((gt x0 a882).fMined))] ∧ RdS kInt _ u ((gt x0 a882).fOut.fRule.fKeys) := rd_with1 hp0 (or_t e946 (not_mk hg977))
              refine drwp_take rfl (guard_on rfl rfl rfl hg977) rfl rfl (fun w_ hS_ => (ex_indexAddr (d := kCoin) rfl rfl rfl Try.underlying25 tsz104 hp0 (idx_lo (or_t e946 (not_mk hg977))) (idx_hi (or_t e946 (not_mk hg977))))) hS ?_
              refine drwp_take rfl (guard_on rfl rfl rfl hg977) rfl rfl (fun w_ hS_ => (ex_fieldAddr (off' := so p0 + (a882).toNat * 8 + 7) rfl rfl Try.underlying104 rfl tsz4 rfl)) hS ?_
              refine drwp_take rfl (guard_on rfl rfl rfl hg977) rfl rfl (fun w_ hS_ => (ex_load1 rfl rfl Try.underlying4 rfl ((hS_.at_ hc947) 7 _ rfl))) hS ?_
              refine drwp_take rfl (guard_on rfl rfl rfl hg977) rfl rfl (fun w_ hS_ => (ex_move rfl rfl)) hS ?_
              refine drwp_take rfl (guard_on rfl rfl rfl hg977) rfl rfl (fun w_ hS_ => (ex_move rfl rfl)) hS ?_
              obtain ⟨kv952, hc951, hk953⟩ : ∃ u, CellsAt _ (sb p1) (so p1 + (a882).toNat * 8) [(.int .i64 ((gt x1 a882).fRef.fTx)), (.int .i64 ((gt x1 a882).fRef.fAt)), (.int .i64 ((gt x1 a882).fOut.fValue)), u, (.int .i64 ((gt x1 a882).fOut.fRule.fNeed)), (.int .i64 ((gt x1 a882).fOut.fRule.fAfter)), (.int .i64 ((gt x1 a882).fHeight)), (.bool ((gt x1 a882).fMined))] ∧ RdS kInt _ u ((gt x1 a882).fOut.fRule.fKeys) := rd_with1 hp1 (or_t e950 (not_mk hg977))
              refine drwp_take rfl (guard_on rfl rfl rfl hg977) rfl rfl (fun w_ hS_ => (ex_indexAddr (d := kCoin) rfl rfl rfl Try.underlying25 tsz104 hp1 (idx_lo (or_t e950 (not_mk hg977))) (idx_hi (or_t e950 (not_mk hg977))))) hS ?_
              refine drwp_take rfl (guard_on rfl rfl rfl hg977) rfl rfl (fun w_ hS_ => (ex_fieldAddr (off' := so p1 + (a882).toNat * 8 + 7) rfl rfl Try.underlying104 rfl tsz4 rfl)) hS ?_
              refine drwp_take rfl (guard_on rfl rfl rfl hg977) rfl rfl (fun w_ hS_ => (ex_load1 rfl rfl Try.underlying4 rfl ((hS_.at_ hc951) 7 _ rfl))) hS ?_
              refine drwp_take rfl (guard_on rfl rfl rfl hg977) rfl rfl (fun w_ hS_ => (ex_bneq rfl rfl rfl Try.underlying4)) hS ?_
              refine drwp_take (v := .bool (((!((((gt x0 a882).fRef.fTx) == ((gt x1 a882).fRef.fTx)) && (((gt x0 a882).fRef.fAt) == ((gt x1 a882).fRef.fAt)))) || (((gt x0 a882).fHeight) != ((gt x1 a882).fHeight))) || (((gt x0 a882).fMined) != ((gt x1 a882).fMined)))) rfl (guard_none rfl) rfl rfl (fun w_ hS_ => (ex_por_f rfl rfl hg977 rfl)) hS ?_
              refine drwp_take rfl (guard_none rfl) rfl rfl (fun w_ hS_ => (ex_move rfl rfl)) hS ?_
              refine bool_cases (((!((((gt x0 a882).fRef.fTx) == ((gt x1 a882).fRef.fTx)) && (((gt x0 a882).fRef.fAt) == ((gt x1 a882).fRef.fAt)))) || (((gt x0 a882).fHeight) != ((gt x1 a882).fHeight))) || (((gt x0 a882).fMined) != ((gt x1 a882).fMined))) (fun hg981 => ?_) (fun hg981 => ?_)
              · skip
                refine drwp_off rfl (guard_off rfl rfl rfl hg981) rfl rfl hS ?_
                refine drwp_off rfl (guard_off rfl rfl rfl hg981) rfl rfl hS ?_
                refine drwp_off rfl (guard_off rfl rfl rfl hg981) rfl rfl hS ?_
                refine drwp_off rfl (guard_off rfl rfl rfl hg981) rfl rfl hS ?_
                refine drwp_off rfl (guard_off rfl rfl rfl hg981) rfl rfl hS ?_
                refine drwp_off rfl (guard_off rfl rfl rfl hg981) rfl rfl hS ?_
                refine drwp_off rfl (guard_off rfl rfl rfl hg981) rfl rfl hS ?_
                refine drwp_off rfl (guard_off rfl rfl rfl hg981) rfl rfl hS ?_
                refine drwp_off rfl (guard_off rfl rfl rfl hg981) rfl rfl hS ?_
                refine drwp_off rfl (guard_off rfl rfl rfl hg981) rfl rfl hS ?_
                refine drwp_off rfl (guard_off rfl rfl rfl hg981) rfl rfl hS ?_
                refine drwp_off rfl (guard_off rfl rfl rfl hg981) rfl rfl hS ?_
                refine drwp_off rfl (guard_off rfl rfl rfl hg981) rfl rfl hS ?_
                have hg982 : ((((!((((gt x0 a882).fRef.fTx) == ((gt x1 a882).fRef.fTx)) && (((gt x0 a882).fRef.fAt) == ((gt x1 a882).fRef.fAt)))) || (((gt x0 a882).fHeight) != ((gt x1 a882).fHeight))) || (((gt x0 a882).fMined) != ((gt x1 a882).fMined))) || (((gt x0 a882).fOut.fValue) != ((gt x1 a882).fOut.fValue))) = true := by simp only [hg981, Bool.and_true, Bool.true_and, Bool.and_false, Bool.false_and, Bool.or_true, Bool.true_or, Bool.or_false, Bool.false_or, Bool.not_true, Bool.not_false, Bool.not_not]
                refine drwp_take (v := .bool ((((!((((gt x0 a882).fRef.fTx) == ((gt x1 a882).fRef.fTx)) && (((gt x0 a882).fRef.fAt) == ((gt x1 a882).fRef.fAt)))) || (((gt x0 a882).fHeight) != ((gt x1 a882).fHeight))) || (((gt x0 a882).fMined) != ((gt x1 a882).fMined))) || (((gt x0 a882).fOut.fValue) != ((gt x1 a882).fOut.fValue)))) rfl (guard_none rfl) rfl rfl (fun w_ hS_ => (ex_por_t rfl rfl hg981)) hS ?_
                refine drwp_take rfl (guard_none rfl) rfl rfl (fun w_ hS_ => (ex_move rfl rfl)) hS ?_
                refine drwp_off rfl (guard_off rfl rfl rfl hg982) rfl rfl hS ?_
                refine drwp_off rfl (guard_off rfl rfl rfl hg982) rfl rfl hS ?_
                refine drwp_off rfl (guard_off rfl rfl rfl hg982) rfl rfl hS ?_
                refine drwp_off rfl (guard_off rfl rfl rfl hg982) rfl rfl hS ?_
                refine drwp_off rfl (guard_off rfl rfl rfl hg982) rfl rfl hS ?_
                refine drwp_off rfl (guard_off rfl rfl rfl hg982) rfl rfl hS ?_
                refine drwp_off rfl (guard_off rfl rfl rfl hg982) rfl rfl hS ?_
                refine drwp_off rfl (guard_off rfl rfl rfl hg982) rfl rfl hS ?_
                refine drwp_off rfl (guard_off rfl rfl rfl hg982) rfl rfl hS ?_
                refine drwp_off rfl (guard_off rfl rfl rfl hg982) rfl rfl hS ?_
                refine drwp_off1 rfl (guard_off rfl rfl rfl hg982) rfl rfl ⟨hS, ?_⟩
                refine drwp_off rfl (guard_off rfl rfl rfl hg982) rfl rfl hS ?_
                have hg983 : (((((!((((gt x0 a882).fRef.fTx) == ((gt x1 a882).fRef.fTx)) && (((gt x0 a882).fRef.fAt) == ((gt x1 a882).fRef.fAt)))) || (((gt x0 a882).fHeight) != ((gt x1 a882).fHeight))) || (((gt x0 a882).fMined) != ((gt x1 a882).fMined))) || (((gt x0 a882).fOut.fValue) != ((gt x1 a882).fOut.fValue))) || (!t970)) = true := by simp only [hg982, Bool.and_true, Bool.true_and, Bool.and_false, Bool.false_and, Bool.or_true, Bool.true_or, Bool.or_false, Bool.false_or, Bool.not_true, Bool.not_false, Bool.not_not]
                refine drwp_take (v := .bool (((((!((((gt x0 a882).fRef.fTx) == ((gt x1 a882).fRef.fTx)) && (((gt x0 a882).fRef.fAt) == ((gt x1 a882).fRef.fAt)))) || (((gt x0 a882).fHeight) != ((gt x1 a882).fHeight))) || (((gt x0 a882).fMined) != ((gt x1 a882).fMined))) || (((gt x0 a882).fOut.fValue) != ((gt x1 a882).fOut.fValue))) || (!t970))) rfl (guard_none rfl) rfl rfl (fun w_ hS_ => (ex_por_t rfl rfl hg982)) hS ?_
                refine drwp_done ?_
                exact at_meet [(0, p0), (1, p1), (5, .int .i64 a882), (82, .bool (((((!((((gt x0 a882).fRef.fTx) == ((gt x1 a882).fRef.fTx)) && (((gt x0 a882).fRef.fAt) == ((gt x1 a882).fRef.fAt)))) || (((gt x0 a882).fHeight) != ((gt x1 a882).fHeight))) || (((gt x0 a882).fMined) != ((gt x1 a882).fMined))) || (((gt x0 a882).fOut.fValue) != ((gt x1 a882).fOut.fValue))) || (!t970)))] ⟨rfl, HM⟩ (Sub.cons rfl (Sub.cons rfl (Sub.cons rfl (Sub.cons rfl Sub.nil))))
              · skip
                refine drwp_take rfl (guard_on rfl rfl rfl hg981) rfl rfl (fun w_ hS_ => (ex_move rfl rfl)) hS ?_
                refine drwp_take rfl (guard_on rfl rfl rfl hg981) rfl rfl (fun w_ hS_ => (ex_move rfl rfl)) hS ?_
                obtain ⟨kv956, hc955, hk957⟩ : ∃ u, CellsAt _ (sb p0) (so p0 + (a882).toNat * 8) [(.int .i64 ((gt x0 a882).fRef.fTx)), (.int .i64 ((gt x0 a882).fRef.fAt)), (.int .i64 ((gt x0 a882).fOut.fValue)), u, (.int .i64 ((gt x0 a882).fOut.fRule.fNeed)), (.int .i64 ((gt x0 a882).fOut.fRule.fAfter)), (.int .i64 ((gt x0 a882).fHeight)), (.bool ((gt x0 a882).fMined))] ∧ RdS kInt _ u ((gt x0 a882).fOut.fRule.fKeys) := rd_with1 hp0 (or_t e954 (not_mk hg981))
                refine drwp_take rfl (guard_on rfl rfl rfl hg981) rfl rfl (fun w_ hS_ => (ex_indexAddr (d := kCoin) rfl rfl rfl Try.underlying25 tsz104 hp0 (idx_lo (or_t e954 (not_mk hg981))) (idx_hi (or_t e954 (not_mk hg981))))) hS ?_
                refine drwp_take rfl (guard_on rfl rfl rfl hg981) rfl rfl (fun w_ hS_ => (ex_fieldAddr (off' := so p0 + (a882).toNat * 8 + 2) rfl rfl Try.underlying104 rfl tsz102 rfl)) hS ?_
                refine drwp_take rfl (guard_on rfl rfl rfl hg981) rfl rfl (fun w_ hS_ => (ex_fieldAddr (off' := so p0 + (a882).toNat * 8 + 2) rfl rfl Try.underlying102 rfl tsz2 rfl)) hS ?_
                refine drwp_take rfl (guard_on rfl rfl rfl hg981) rfl rfl (fun w_ hS_ => (ex_load1 rfl rfl Try.underlying2 rfl ((hS_.at_ hc955) 2 _ rfl))) hS ?_
                refine drwp_take rfl (guard_on rfl rfl rfl hg981) rfl rfl (fun w_ hS_ => (ex_move rfl rfl)) hS ?_
                refine drwp_take rfl (guard_on rfl rfl rfl hg981) rfl rfl (fun w_ hS_ => (ex_move rfl rfl)) hS ?_
                obtain ⟨kv960, hc959, hk961⟩ : ∃ u, CellsAt _ (sb p1) (so p1 + (a882).toNat * 8) [(.int .i64 ((gt x1 a882).fRef.fTx)), (.int .i64 ((gt x1 a882).fRef.fAt)), (.int .i64 ((gt x1 a882).fOut.fValue)), u, (.int .i64 ((gt x1 a882).fOut.fRule.fNeed)), (.int .i64 ((gt x1 a882).fOut.fRule.fAfter)), (.int .i64 ((gt x1 a882).fHeight)), (.bool ((gt x1 a882).fMined))] ∧ RdS kInt _ u ((gt x1 a882).fOut.fRule.fKeys) := rd_with1 hp1 (or_t e958 (not_mk hg981))
                refine drwp_take rfl (guard_on rfl rfl rfl hg981) rfl rfl (fun w_ hS_ => (ex_indexAddr (d := kCoin) rfl rfl rfl Try.underlying25 tsz104 hp1 (idx_lo (or_t e958 (not_mk hg981))) (idx_hi (or_t e958 (not_mk hg981))))) hS ?_
                refine drwp_take rfl (guard_on rfl rfl rfl hg981) rfl rfl (fun w_ hS_ => (ex_fieldAddr (off' := so p1 + (a882).toNat * 8 + 2) rfl rfl Try.underlying104 rfl tsz102 rfl)) hS ?_
                refine drwp_take rfl (guard_on rfl rfl rfl hg981) rfl rfl (fun w_ hS_ => (ex_fieldAddr (off' := so p1 + (a882).toNat * 8 + 2) rfl rfl Try.underlying102 rfl tsz2 rfl)) hS ?_
                refine drwp_take rfl (guard_on rfl rfl rfl hg981) rfl rfl (fun w_ hS_ => (ex_load1 rfl rfl Try.underlying2 rfl ((hS_.at_ hc959) 2 _ rfl))) hS ?_
                refine drwp_take rfl (guard_on rfl rfl rfl hg981) rfl rfl (fun w_ hS_ => (ex_neq rfl rfl rfl)) hS ?_
                refine drwp_take (v := .bool ((((!((((gt x0 a882).fRef.fTx) == ((gt x1 a882).fRef.fTx)) && (((gt x0 a882).fRef.fAt) == ((gt x1 a882).fRef.fAt)))) || (((gt x0 a882).fHeight) != ((gt x1 a882).fHeight))) || (((gt x0 a882).fMined) != ((gt x1 a882).fMined))) || (((gt x0 a882).fOut.fValue) != ((gt x1 a882).fOut.fValue)))) rfl (guard_none rfl) rfl rfl (fun w_ hS_ => (ex_por_f rfl rfl hg981 rfl)) hS ?_
                refine drwp_take rfl (guard_none rfl) rfl rfl (fun w_ hS_ => (ex_move rfl rfl)) hS ?_
                refine bool_cases ((((!((((gt x0 a882).fRef.fTx) == ((gt x1 a882).fRef.fTx)) && (((gt x0 a882).fRef.fAt) == ((gt x1 a882).fRef.fAt)))) || (((gt x0 a882).fHeight) != ((gt x1 a882).fHeight))) || (((gt x0 a882).fMined) != ((gt x1 a882).fMined))) || (((gt x0 a882).fOut.fValue) != ((gt x1 a882).fOut.fValue))) (fun hg984 => ?_) (fun hg984 => ?_)
                · skip
                  refine drwp_off rfl (guard_off rfl rfl rfl hg984) rfl rfl hS ?_
                  refine drwp_off rfl (guard_off rfl rfl rfl hg984) rfl rfl hS ?_
                  refine drwp_off rfl (guard_off rfl rfl rfl hg984) rfl rfl hS ?_
                  refine drwp_off rfl (guard_off rfl rfl rfl hg984) rfl rfl hS ?_
                  refine drwp_off rfl (guard_off rfl rfl rfl hg984) rfl rfl hS ?_
                  refine drwp_off rfl (guard_off rfl rfl rfl hg984) rfl rfl hS ?_
                  refine drwp_off rfl (guard_off rfl rfl rfl hg984) rfl rfl hS ?_
                  refine drwp_off rfl (guard_off rfl rfl rfl hg984) rfl rfl hS ?_
                  refine drwp_off rfl (guard_off rfl rfl rfl hg984) rfl rfl hS ?_
                  refine drwp_off rfl (guard_off rfl rfl rfl hg984) rfl rfl hS ?_
                  refine drwp_off1 rfl (guard_off rfl rfl rfl hg984) rfl rfl ⟨hS, ?_⟩
                  refine drwp_off rfl (guard_off rfl rfl rfl hg984) rfl rfl hS ?_
                  have hg985 : (((((!((((gt x0 a882).fRef.fTx) == ((gt x1 a882).fRef.fTx)) && (((gt x0 a882).fRef.fAt) == ((gt x1 a882).fRef.fAt)))) || (((gt x0 a882).fHeight) != ((gt x1 a882).fHeight))) || (((gt x0 a882).fMined) != ((gt x1 a882).fMined))) || (((gt x0 a882).fOut.fValue) != ((gt x1 a882).fOut.fValue))) || (!t970)) = true := by simp only [hg984, Bool.and_true, Bool.true_and, Bool.and_false, Bool.false_and, Bool.or_true, Bool.true_or, Bool.or_false, Bool.false_or, Bool.not_true, Bool.not_false, Bool.not_not]
                  refine drwp_take (v := .bool (((((!((((gt x0 a882).fRef.fTx) == ((gt x1 a882).fRef.fTx)) && (((gt x0 a882).fRef.fAt) == ((gt x1 a882).fRef.fAt)))) || (((gt x0 a882).fHeight) != ((gt x1 a882).fHeight))) || (((gt x0 a882).fMined) != ((gt x1 a882).fMined))) || (((gt x0 a882).fOut.fValue) != ((gt x1 a882).fOut.fValue))) || (!t970))) rfl (guard_none rfl) rfl rfl (fun w_ hS_ => (ex_por_t rfl rfl hg984)) hS ?_
                  refine drwp_done ?_
                  exact at_meet [(0, p0), (1, p1), (5, .int .i64 a882), (82, .bool (((((!((((gt x0 a882).fRef.fTx) == ((gt x1 a882).fRef.fTx)) && (((gt x0 a882).fRef.fAt) == ((gt x1 a882).fRef.fAt)))) || (((gt x0 a882).fHeight) != ((gt x1 a882).fHeight))) || (((gt x0 a882).fMined) != ((gt x1 a882).fMined))) || (((gt x0 a882).fOut.fValue) != ((gt x1 a882).fOut.fValue))) || (!t970)))] ⟨rfl, HM⟩ (Sub.cons rfl (Sub.cons rfl (Sub.cons rfl (Sub.cons rfl Sub.nil))))
                · skip
                  refine drwp_take rfl (guard_on rfl rfl rfl hg984) rfl rfl (fun w_ hS_ => (ex_move rfl rfl)) hS ?_
                  refine drwp_take rfl (guard_on rfl rfl rfl hg984) rfl rfl (fun w_ hS_ => (ex_move rfl rfl)) hS ?_
                  obtain ⟨kv964, hc963, hk965⟩ : ∃ u, CellsAt _ (sb p0) (so p0 + (a882).toNat * 8) [(.int .i64 ((gt x0 a882).fRef.fTx)), (.int .i64 ((gt x0 a882).fRef.fAt)), (.int .i64 ((gt x0 a882).fOut.fValue)), u, (.int .i64 ((gt x0 a882).fOut.fRule.fNeed)), (.int .i64 ((gt x0 a882).fOut.fRule.fAfter)), (.int .i64 ((gt x0 a882).fHeight)), (.bool ((gt x0 a882).fMined))] ∧ RdS kInt _ u ((gt x0 a882).fOut.fRule.fKeys) := rd_with1 hp0 (or_t e962 (not_mk hg984))
                  refine drwp_take rfl (guard_on rfl rfl rfl hg984) rfl rfl (fun w_ hS_ => (ex_indexAddr (d := kCoin) rfl rfl rfl Try.underlying25 tsz104 hp0 (idx_lo (or_t e962 (not_mk hg984))) (idx_hi (or_t e962 (not_mk hg984))))) hS ?_
                  refine drwp_take rfl (guard_on rfl rfl rfl hg984) rfl rfl (fun w_ hS_ => (ex_fieldAddr (off' := so p0 + (a882).toNat * 8 + 2) rfl rfl Try.underlying104 rfl tsz102 rfl)) hS ?_
                  refine drwp_take rfl (guard_on rfl rfl rfl hg984) rfl rfl (fun w_ hS_ => (ex_fieldAddr (off' := so p0 + (a882).toNat * 8 + 3) rfl rfl Try.underlying102 rfl tsz100 rfl)) hS ?_
                  refine drwp_take rfl (guard_on rfl rfl rfl hg984) rfl rfl (fun w_ hS_ => (ex_move rfl rfl)) hS ?_
                  refine drwp_take rfl (guard_on rfl rfl rfl hg984) rfl rfl (fun w_ hS_ => (ex_move rfl rfl)) hS ?_
                  obtain ⟨kv968, hc967, hk969⟩ : ∃ u, CellsAt _ (sb p1) (so p1 + (a882).toNat * 8) [(.int .i64 ((gt x1 a882).fRef.fTx)), (.int .i64 ((gt x1 a882).fRef.fAt)), (.int .i64 ((gt x1 a882).fOut.fValue)), u, (.int .i64 ((gt x1 a882).fOut.fRule.fNeed)), (.int .i64 ((gt x1 a882).fOut.fRule.fAfter)), (.int .i64 ((gt x1 a882).fHeight)), (.bool ((gt x1 a882).fMined))] ∧ RdS kInt _ u ((gt x1 a882).fOut.fRule.fKeys) := rd_with1 hp1 (or_t e966 (not_mk hg984))
                  refine drwp_take rfl (guard_on rfl rfl rfl hg984) rfl rfl (fun w_ hS_ => (ex_indexAddr (d := kCoin) rfl rfl rfl Try.underlying25 tsz104 hp1 (idx_lo (or_t e966 (not_mk hg984))) (idx_hi (or_t e966 (not_mk hg984))))) hS ?_
                  refine drwp_take rfl (guard_on rfl rfl rfl hg984) rfl rfl (fun w_ hS_ => (ex_fieldAddr (off' := so p1 + (a882).toNat * 8 + 2) rfl rfl Try.underlying104 rfl tsz102 rfl)) hS ?_
                  refine drwp_take rfl (guard_on rfl rfl rfl hg984) rfl rfl (fun w_ hS_ => (ex_fieldAddr (off' := so p1 + (a882).toNat * 8 + 3) rfl rfl Try.underlying102 rfl tsz100 rfl)) hS ?_
                  refine drwp_one rfl (guard_on rfl rfl rfl hg984) rfl rfl (does_callk rfl callok121 rfl (spec_l2Same.calls (x0 := (gt x0 a882).fOut.fRule) (x1 := (gt x1 a882).fOut.fRule) (CellsAt.sub (HM.at_ hc963) 3 3 rfl) (HM.rd hk965) (CellsAt.sub (HM.at_ hc967) 3 3 rfl) (HM.rd hk969) (cond_t (not_mk hg984) h971))) ?_
                  rintro _ w986 ⟨rfl, hn⟩
                  replace HM : Mem w [] w986 [] := HM.call hn
                  refine ⟨Mem.suf (M := []) HM, ?_⟩
                  have hS := Mem.suf (M := []) HM
                  refine drwp_take rfl (guard_on rfl rfl rfl hg984) rfl rfl (fun w_ hS_ => (ex_not rfl rfl)) hS ?_
                  refine drwp_take (v := .bool (((((!((((gt x0 a882).fRef.fTx) == ((gt x1 a882).fRef.fTx)) && (((gt x0 a882).fRef.fAt) == ((gt x1 a882).fRef.fAt)))) || (((gt x0 a882).fHeight) != ((gt x1 a882).fHeight))) || (((gt x0 a882).fMined) != ((gt x1 a882).fMined))) || (((gt x0 a882).fOut.fValue) != ((gt x1 a882).fOut.fValue))) || (!t970))) rfl (guard_none rfl) rfl rfl (fun w_ hS_ => (ex_por_f rfl rfl hg984 rfl)) hS ?_
                  refine drwp_done ?_
                  exact at_meet [(0, p0), (1, p1), (5, .int .i64 a882), (82, .bool (((((!((((gt x0 a882).fRef.fTx) == ((gt x1 a882).fRef.fTx)) && (((gt x0 a882).fRef.fAt) == ((gt x1 a882).fRef.fAt)))) || (((gt x0 a882).fHeight) != ((gt x1 a882).fHeight))) || (((gt x0 a882).fMined) != ((gt x1 a882).fMined))) || (((gt x0 a882).fOut.fValue) != ((gt x1 a882).fOut.fValue))) || (!t970)))] ⟨rfl, HM⟩ (Sub.cons rfl (Sub.cons rfl (Sub.cons rfl (Sub.cons rfl Sub.nil))))
        · rintro _ w987 ⟨rfl, HM⟩
          refine at_then ?_
          refine run_cond (b := (((((!((((gt x0 a882).fRef.fTx) == ((gt x1 a882).fRef.fTx)) && (((gt x0 a882).fRef.fAt) == ((gt x1 a882).fRef.fAt)))) || (((gt x0 a882).fHeight) != ((gt x1 a882).fHeight))) || (((gt x0 a882).fMined) != ((gt x1 a882).fMined))) || (((gt x0 a882).fOut.fValue) != ((gt x1 a882).fOut.fValue))) || (!t970))) rfl (fun hb988 => ?_) (fun hb988 => ?_)
          · replace ho837 := cond_t hb988 ho837
            refine run_seq ?_
            refine run_region rfl ?_
            refine ops_ex rfl (guard_none rfl) rfl rfl (ex_assign rfl rfl) ?_
            refine ops_nil ?_
            refine at_then ?_
            refine run_ret ?_
            refine at_block_ret ?_
            refine at_then_ret ?_
            refine at_then_ret ?_
            refine at_block_ret ?_
            refine at_then_ret ?_
            have hR := Option.some.inj ho837
            subst hR
            have hT := thn_inl H
            have hR := Option.some.inj hT
            subst hR
            exact at_ret1 rfl rfl ⟨_, rfl, rfl, HM⟩
          · replace ho837 := cond_f hb988 ho837
            refine run_skip ?_
            refine at_block ?_
            refine at_then ?_
            refine run_region rfl ?_
            refine ops_ex rfl (guard_none rfl) rfl rfl (ex_move rfl rfl) ?_
            refine ops_ex rfl (guard_none rfl) rfl rfl (ex_add rfl rfl rfl) ?_
            refine ops_ex rfl (guard_none rfl) rfl rfl (ex_assign rfl rfl) ?_
            refine ops_nil ?_
            exact at_again k927 (ρ1 := [(0, p0), (1, p1), (5, .int .i64 (wrap64 (a882 + 1)))]) (Nat.lt_succ_self _) ⟨_, ho837, rfl, HM⟩ (Sub.cons rfl (Sub.cons rfl (Sub.cons rfl Sub.nil)))
      · replace ho837 := cond_f hb929 ho837
        refine run_exit ?_
        refine at_then_exit ?_
        refine at_then_exit ?_
        refine at_block_exit ?_
        exact at_mid (ρ' := []) ⟨(Option.some.inj ho837), rfl, HM⟩ Sub.nil
    · rintro _ w989 ⟨rfl, rfl, HM⟩
      replace H := (thn_inr H)
      refine run_seq ?_
      refine run_region rfl ?_
      refine ops_ex rfl (guard_none rfl) rfl rfl (ex_assign rfl rfl) ?_
      refine ops_nil ?_
      refine at_then ?_
      refine run_ret ?_
      have hR := Option.some.inj H
      subst hR
      exact at_ret1 rfl rfl ⟨_, rfl, rfl, HM⟩
end Go.Proofs.Ytoiacoiccpiciaa.Zk
