/- What functions of the program compute, each as a plain function, and that they do. Conditions: as each theorem states them. -/
import Derived.Test.YtkofpnbacgccnaaZkF5
namespace Go.Proofs.Ytkofpnbacgccnaa.Zk
open Go Go.RowKit Go.IntWalk Go.Proofs
set_option linter.unusedVariables false
set_option linter.unusedSimpArgs false
set_option maxRecDepth 100000
def laws_eqBlock.f (k : Nat) (x0 : Block) (x1 : Block) : Option Bool := (bif (x0.fPrev != x1.fPrev) then some false else (bif (x0.fHeight != x1.fHeight) then some false else (bif (x0.fMiner != x1.fMiner) then some false else ((laws_eqInt64S.f k x0.fTxs x1.fTxs).bind fun t3217 => (bif !t3217 then some false else some true)))))
theorem laws_eqBlock.calls {k : Nat} {x0 : Block} {x1 : Block} {p0_0 : Value} {p1_0 : Value} {w : World} (hp0_0 : RdS kInt w p0_0 x0.fTxs) (hp1_0 : RdS kInt w p1_0 x1.fTxs) {r : Bool} (H : laws_eqBlock.f k x0 x1 = some r) :
    Calls Try.prog 38 ([.agg #[(.int .i64 x0.fPrev), (.int .i64 x0.fHeight), (.int .i64 x0.fMiner), p0_0], .agg #[(.int .i64 x1.fPrev), (.int .i64 x1.fHeight), (.int .i64 x1.fMiner), p1_0]] : List Value).toArray w (fun e w_ => ∃ v, e = .returned v ∧ v = (.bool r) ∧ Mem w [] w_ []) := by
  have HM := Mem.start w
  refine calls_run (N := 26) Try.func38 rfl rfl rfl rfl ?_
  unfold laws_eqBlock.f at H
  refine run_seq ?_
  refine run_region rfl ?_
  refine ops_does rfl (guard_none rfl) rfl rfl (does_box (cs := [.int .i64 x0.fPrev, .int .i64 x0.fHeight, .int .i64 x0.fMiner, p0_0]) rfl rfl rfl HM) ?_
  rintro _ w3209 ⟨b3203, rfl, HM⟩
  refine ops_does rfl (guard_none rfl) rfl rfl (does_box (cs := [.int .i64 x1.fPrev, .int .i64 x1.fHeight, .int .i64 x1.fMiner, p1_0]) rfl rfl rfl HM) ?_
  rintro _ w3210 ⟨b3206, rfl, HM⟩
  refine ops_ex rfl (guard_none rfl) rfl rfl (ex_assign rfl rfl) ?_
  refine ops_nil ?_
  refine at_then ?_
  refine run_seq ?_
  refine run_seq ?_
  refine run_region rfl ?_
  refine ops_ex rfl (guard_none rfl) rfl rfl (ex_fieldAddr (off' := 0) rfl rfl Try.underlying50 rfl tsz2 rfl) ?_
  refine ops_ex rfl (guard_none rfl) rfl rfl (ex_load1 rfl rfl Try.underlying2 rfl ((HM.box_at 1 rfl) 0 _ rfl)) ?_
  refine ops_ex rfl (guard_none rfl) rfl rfl (ex_fieldAddr (off' := 0) rfl rfl Try.underlying50 rfl tsz2 rfl) ?_
  refine ops_ex rfl (guard_none rfl) rfl rfl (ex_load1 rfl rfl Try.underlying2 rfl ((HM.box_at 0 rfl) 0 _ rfl)) ?_
  refine ops_ex rfl (guard_none rfl) rfl rfl (ex_neq rfl rfl rfl) ?_
  refine ops_nil ?_
  refine at_then ?_
  refine run_cond (b := (x0.fPrev != x1.fPrev)) rfl (fun hb3212 => ?_) (fun hb3212 => ?_)
  · replace H := cond_t hb3212 H
    refine run_seq ?_
    refine run_region rfl ?_
    refine ops_ex rfl (guard_none rfl) rfl rfl (ex_assign rfl rfl) ?_
    refine ops_nil ?_
    refine at_then ?_
    refine run_ret ?_
    refine at_then_ret ?_
    replace HM := (HM.front 0 rfl rfl).drop
    replace HM := (HM.front 0 rfl rfl).drop
    have hR := Option.some.inj H
    subst hR
    exact at_ret1 rfl rfl ⟨_, rfl, rfl, HM⟩
  · replace H := cond_f hb3212 H
    refine run_skip ?_
    refine at_then ?_
    refine run_seq ?_
    refine run_seq ?_
    refine run_region rfl ?_
    refine ops_ex rfl (guard_none rfl) rfl rfl (ex_fieldAddr (off' := 1) rfl rfl Try.underlying50 rfl tsz2 rfl) ?_
    refine ops_ex rfl (guard_none rfl) rfl rfl (ex_load1 rfl rfl Try.underlying2 rfl ((HM.box_at 1 rfl) 1 _ rfl)) ?_
    refine ops_ex rfl (guard_none rfl) rfl rfl (ex_fieldAddr (off' := 1) rfl rfl Try.underlying50 rfl tsz2 rfl) ?_
    refine ops_ex rfl (guard_none rfl) rfl rfl (ex_load1 rfl rfl Try.underlying2 rfl ((HM.box_at 0 rfl) 1 _ rfl)) ?_
    refine ops_ex rfl (guard_none rfl) rfl rfl (ex_neq rfl rfl rfl) ?_
    refine ops_nil ?_
    refine at_then ?_
    refine run_cond (b := (x0.fHeight != x1.fHeight)) rfl (fun hb3214 => ?_) (fun hb3214 => ?_)
    · replace H := cond_t hb3214 H
      refine run_seq ?_
      refine run_region rfl ?_
      refine ops_ex rfl (guard_none rfl) rfl rfl (ex_assign rfl rfl) ?_
      refine ops_nil ?_
      refine at_then ?_
      refine run_ret ?_
      refine at_then_ret ?_
      replace HM := (HM.front 0 rfl rfl).drop
      replace HM := (HM.front 0 rfl rfl).drop
      have hR := Option.some.inj H
      subst hR
      exact at_ret1 rfl rfl ⟨_, rfl, rfl, HM⟩
    · replace H := cond_f hb3214 H
      refine run_skip ?_
      refine at_then ?_
      refine run_seq ?_
      refine run_seq ?_
      refine run_region rfl ?_
      refine ops_ex rfl (guard_none rfl) rfl rfl (ex_fieldAddr (off' := 2) rfl rfl Try.underlying50 rfl tsz2 rfl) ?_
      refine ops_ex rfl (guard_none rfl) rfl rfl (ex_load1 rfl rfl Try.underlying2 rfl ((HM.box_at 1 rfl) 2 _ rfl)) ?_
      refine ops_ex rfl (guard_none rfl) rfl rfl (ex_fieldAddr (off' := 2) rfl rfl Try.underlying50 rfl tsz2 rfl) ?_
      refine ops_ex rfl (guard_none rfl) rfl rfl (ex_load1 rfl rfl Try.underlying2 rfl ((HM.box_at 0 rfl) 2 _ rfl)) ?_
      refine ops_ex rfl (guard_none rfl) rfl rfl (ex_neq rfl rfl rfl) ?_
      refine ops_nil ?_
      refine at_then ?_
      refine run_cond (b := (x0.fMiner != x1.fMiner)) rfl (fun hb3216 => ?_) (fun hb3216 => ?_)
      · replace H := cond_t hb3216 H
        refine run_seq ?_
        refine run_region rfl ?_
        refine ops_ex rfl (guard_none rfl) rfl rfl (ex_assign rfl rfl) ?_
        refine ops_nil ?_
        refine at_then ?_
        refine run_ret ?_
        refine at_then_ret ?_
        replace HM := (HM.front 0 rfl rfl).drop
        replace HM := (HM.front 0 rfl rfl).drop
        have hR := Option.some.inj H
        subst hR
        exact at_ret1 rfl rfl ⟨_, rfl, rfl, HM⟩
      · replace H := cond_f hb3216 H
        refine run_skip ?_
        refine at_then ?_
        refine run_seq ?_
        refine run_seq ?_
        obtain ⟨t3217, h3218, H⟩ := bind_some H
        refine run_region rfl ?_
        refine ops_ex rfl (guard_none rfl) rfl rfl (ex_fieldAddr (off' := 3) rfl rfl Try.underlying50 rfl tsz34 rfl) ?_
        refine ops_ex rfl (guard_none rfl) rfl rfl (ex_load1 rfl rfl Try.underlying34 rfl ((HM.box_at 1 rfl) 3 _ rfl)) ?_
        refine ops_ex rfl (guard_none rfl) rfl rfl (ex_fieldAddr (off' := 3) rfl rfl Try.underlying50 rfl tsz34 rfl) ?_
        refine ops_ex rfl (guard_none rfl) rfl rfl (ex_load1 rfl rfl Try.underlying34 rfl ((HM.box_at 0 rfl) 3 _ rfl)) ?_
        refine ops_does rfl (guard_none rfl) rfl rfl (does_callk rfl callok68 rfl (laws_eqInt64S.calls (x0 := x0.fTxs) (x1 := x1.fTxs) (HM.rd hp0_0) (HM.rd hp1_0) h3218)) ?_
        rintro _ w3219 ⟨rfl, hn⟩
        replace HM : Mem w [] w3219 [box b3206 50 [.int .i64 x1.fPrev, .int .i64 x1.fHeight, .int .i64 x1.fMiner, p1_0], box b3203 50 [.int .i64 x0.fPrev, .int .i64 x0.fHeight, .int .i64 x0.fMiner, p0_0]] := HM.call hn
        refine ops_ex rfl (guard_none rfl) rfl rfl (ex_not rfl rfl) ?_
        refine ops_nil ?_
        refine at_then ?_
        refine run_cond (b := !t3217) rfl (fun hb3220 => ?_) (fun hb3220 => ?_)
        · replace H := cond_t hb3220 H
          refine run_seq ?_
          refine run_region rfl ?_
          refine ops_ex rfl (guard_none rfl) rfl rfl (ex_assign rfl rfl) ?_
          refine ops_nil ?_
          refine at_then ?_
          refine run_ret ?_
          refine at_then_ret ?_
          replace HM := (HM.front 0 rfl rfl).drop
          replace HM := (HM.front 0 rfl rfl).drop
          have hR := Option.some.inj H
          subst hR
          exact at_ret1 rfl rfl ⟨_, rfl, rfl, HM⟩
        · replace H := cond_f hb3220 H
          refine run_skip ?_
          refine at_then ?_
          refine run_seq ?_
          refine run_region rfl ?_
          refine ops_ex rfl (guard_none rfl) rfl rfl (ex_assign rfl rfl) ?_
          refine ops_nil ?_
          refine at_then ?_
          refine run_ret ?_
          replace HM := (HM.front 0 rfl rfl).drop
          replace HM := (HM.front 0 rfl rfl).drop
          have hR := Option.some.inj H
          subst hR
          exact at_ret1 rfl rfl ⟨_, rfl, rfl, HM⟩

def laws_FnExactBlockFault.f (k : Nat) (x0 : Block) : Option Bool := ((laws_szBlock.f k x0 1048576).bind fun t3228 => (bif (decide (t3228 < 0)) then some true else ((laws_toBlock.f k x0).bind fun t3233 => ((spec_BlockFault.f k t3233).bind fun t3237 => ((laws_toBlock.f k x0).bind fun t3241 => ((impl_BlockFault.f k t3241).bind fun t3251 => (bif (t3251 != t3237) then some false else ((laws_toBlock.f k x0).bind fun t3256 => ((laws_eqBlock.f k t3241 t3256).bind fun t3260 => (bif !t3260 then some false else some true))))))))))
theorem laws_FnExactBlockFault.calls {k : Nat} {x0 : Block} {p0_0 : Value} {w : World} (hp0_0 : RdS kInt w p0_0 x0.fTxs) {r : Bool} (H : laws_FnExactBlockFault.f k x0 = some r) :
    Calls Try.prog 10 ([.agg #[(.int .i64 x0.fPrev), (.int .i64 x0.fHeight), (.int .i64 x0.fMiner), p0_0]] : List Value).toArray w (fun e w_ => ∃ v, e = .returned v ∧ v = (.bool r) ∧ Mem w [] w_ []) := by
  have HM := Mem.start w
  refine calls_run (N := 27) Try.func10 rfl rfl rfl rfl ?_
  unfold laws_FnExactBlockFault.f at H
  refine run_seq ?_
  refine run_region rfl ?_
  refine ops_does rfl (guard_none rfl) rfl rfl (does_box (cs := [.int .i64 x0.fPrev, .int .i64 x0.fHeight, .int .i64 x0.fMiner, p0_0]) rfl rfl rfl HM) ?_
  rintro _ w3227 ⟨b3224, rfl, HM⟩
  refine ops_ex rfl (guard_none rfl) rfl rfl (ex_assign rfl rfl) ?_
  refine ops_nil ?_
  refine at_then ?_
  refine run_seq ?_
  refine run_region rfl ?_
  refine ops_ex rfl (guard_none rfl) rfl rfl (ex_assign rfl rfl) ?_
  refine ops_nil ?_
  refine at_then ?_
  refine run_seq ?_
  obtain ⟨t3228, h3229, H⟩ := bind_some H
  refine run_region rfl ?_
  refine ops_ex rfl (guard_none rfl) rfl rfl (ex_loadN (cs := [(.int .i64 x0.fPrev), (.int .i64 x0.fHeight), (.int .i64 x0.fMiner), p0_0]) rfl rfl Try.underlying47 rfl tsz47 rfl ((HM.box_at 0 rfl).sub 0 4 rfl)) ?_
  refine ops_ex rfl (guard_none rfl) rfl rfl (ex_move rfl rfl) ?_
  refine ops_does rfl (guard_none rfl) rfl rfl (does_callk rfl callok34 rfl (laws_szBlock.calls (x0 := x0) (x1 := 1048576) (HM.rd hp0_0) h3229)) ?_
  rintro _ w3230 ⟨rfl, hn⟩
  replace HM : Mem w [] w3230 [box b3224 47 [.int .i64 x0.fPrev, .int .i64 x0.fHeight, .int .i64 x0.fMiner, p0_0]] := HM.call hn
  refine ops_ex rfl (guard_none rfl) rfl rfl (ex_assign rfl rfl) ?_
  refine ops_nil ?_
  refine at_then ?_
  refine run_seq ?_
  refine run_seq ?_
  refine run_region rfl ?_
  refine ops_ex rfl (guard_none rfl) rfl rfl (ex_move rfl rfl) ?_
  refine ops_ex rfl (guard_none rfl) rfl rfl (ex_lss rfl rfl rfl) ?_
  refine ops_nil ?_
  refine at_then ?_
  refine run_cond (b := (decide (t3228 < 0))) rfl (fun hb3232 => ?_) (fun hb3232 => ?_)
  · replace H := cond_t hb3232 H
    refine run_seq ?_
    refine run_region rfl ?_
    refine ops_ex rfl (guard_none rfl) rfl rfl (ex_assign rfl rfl) ?_
    refine ops_nil ?_
    refine at_then ?_
    refine run_ret ?_
    refine at_then_ret ?_
    replace HM := (HM.front 0 rfl rfl).drop
    have hR := Option.some.inj H
    subst hR
    exact at_ret1 rfl rfl ⟨_, rfl, rfl, HM⟩
  · replace H := cond_f hb3232 H
    refine run_skip ?_
    refine at_then ?_
    refine run_seq ?_
    obtain ⟨t3233, h3234, H⟩ := bind_some H
    obtain ⟨t3237, h3238, H⟩ := bind_some H
    refine run_region rfl ?_
    refine ops_ex rfl (guard_none rfl) rfl rfl (ex_loadN (cs := [(.int .i64 x0.fPrev), (.int .i64 x0.fHeight), (.int .i64 x0.fMiner), p0_0]) rfl rfl Try.underlying47 rfl tsz47 rfl ((HM.box_at 0 rfl).sub 0 4 rfl)) ?_
    refine ops_does rfl (guard_none rfl) rfl rfl (does_callk rfl callok36 rfl (laws_toBlock.calls (x0 := x0) (HM.rd hp0_0) h3234)) ?_
    rintro _ w3239 ⟨u3235, rfl, hn⟩
    replace HM : Mem w [] w3239 [own kInt 2 u3235 t3233.fTxs, box b3224 47 [.int .i64 x0.fPrev, .int .i64 x0.fHeight, .int .i64 x0.fMiner, p0_0]] := HM.call hn
    refine ops_does rfl (guard_none rfl) rfl rfl (does_callk rfl callok35 rfl (spec_BlockFault.calls (x0 := t3233) (HM.own_rd 0 rfl) h3238)) ?_
    rintro _ w3240 ⟨rfl, hn⟩
    replace HM : Mem w [] w3240 [own kInt 2 u3235 t3233.fTxs, box b3224 47 [.int .i64 x0.fPrev, .int .i64 x0.fHeight, .int .i64 x0.fMiner, p0_0]] := HM.call hn
    refine ops_ex rfl (guard_none rfl) rfl rfl (ex_assign rfl rfl) ?_
    refine ops_nil ?_
    refine at_then ?_
    refine run_seq ?_
    obtain ⟨t3241, h3242, H⟩ := bind_some H
    refine run_region rfl ?_
    refine ops_ex rfl (guard_none rfl) rfl rfl (ex_loadN (cs := [(.int .i64 x0.fPrev), (.int .i64 x0.fHeight), (.int .i64 x0.fMiner), p0_0]) rfl rfl Try.underlying47 rfl tsz47 rfl ((HM.box_at 1 rfl).sub 0 4 rfl)) ?_
    refine ops_does rfl (guard_none rfl) rfl rfl (does_callk rfl callok36 rfl (laws_toBlock.calls (x0 := x0) (HM.rd hp0_0) h3242)) ?_
    rintro _ w3248 ⟨u3243, rfl, hn⟩
    replace HM : Mem w [] w3248 [own kInt 2 u3243 t3241.fTxs, own kInt 2 u3235 t3233.fTxs, box b3224 47 [.int .i64 x0.fPrev, .int .i64 x0.fHeight, .int .i64 x0.fMiner, p0_0]] := HM.call hn
    refine ops_does rfl (guard_none rfl) rfl rfl (does_alloc (cs := [.int .i64 0, .int .i64 0, .int .i64 0, .slice none 0 0]) rfl tz50 rfl HM) ?_
    rintro _ w3249 ⟨b3245, rfl, HM⟩
    refine ops_doesS rfl (guard_none rfl) rfl (does_store (vs := [.int .i64 t3241.fPrev, .int .i64 t3241.fHeight, .int .i64 t3241.fMiner, u3243]) (cs' := [.int .i64 t3241.fPrev, .int .i64 t3241.fHeight, .int .i64 t3241.fMiner, u3243]) rfl rfl rfl rfl tsz50 (Ones.int (Ones.int (Ones.int (Ones.rd (HM.own_rd 1 rfl) Ones.nil)))) rfl rfl HM) ?_
    rintro w3250 HM
    refine ops_nil ?_
    refine at_then ?_
    refine run_seq ?_
    obtain ⟨t3251, h3252, H⟩ := bind_some H
    refine run_region rfl ?_
    refine ops_ex rfl (guard_none rfl) rfl rfl (ex_loadN (cs := [(.int .i64 t3241.fPrev), (.int .i64 t3241.fHeight), (.int .i64 t3241.fMiner), u3243]) rfl rfl Try.underlying50 rfl tsz50 rfl ((HM.box_at 0 rfl).sub 0 4 rfl)) ?_
    refine ops_does rfl (guard_none rfl) rfl rfl (does_callk rfl callok37 rfl (impl_BlockFault.calls (x0 := t3241) (HM.own_rd 1 rfl) h3252)) ?_
    rintro _ w3253 ⟨rfl, hn⟩
    replace HM : Mem w [] w3253 [box b3245 50 [.int .i64 t3241.fPrev, .int .i64 t3241.fHeight, .int .i64 t3241.fMiner, u3243], own kInt 2 u3243 t3241.fTxs, own kInt 2 u3235 t3233.fTxs, box b3224 47 [.int .i64 x0.fPrev, .int .i64 x0.fHeight, .int .i64 x0.fMiner, p0_0]] := HM.call hn
    refine ops_ex rfl (guard_none rfl) rfl rfl (ex_assign rfl rfl) ?_
    refine ops_nil ?_
    refine at_then ?_
    refine run_seq ?_
    refine run_seq ?_
    refine run_region rfl ?_
    refine ops_ex rfl (guard_none rfl) rfl rfl (ex_move rfl rfl) ?_
    refine ops_ex rfl (guard_none rfl) rfl rfl (ex_move rfl rfl) ?_
    refine ops_ex rfl (guard_none rfl) rfl rfl (ex_neq rfl rfl rfl) ?_
    refine ops_nil ?_
    refine at_then ?_
    refine run_cond (b := (t3251 != t3237)) rfl (fun hb3255 => ?_) (fun hb3255 => ?_)
    · replace H := cond_t hb3255 H
      refine run_seq ?_
      refine run_region rfl ?_
      refine ops_ex rfl (guard_none rfl) rfl rfl (ex_assign rfl rfl) ?_
      refine ops_nil ?_
      refine at_then ?_
      refine run_ret ?_
      refine at_then_ret ?_
      replace HM := (HM.front 0 rfl rfl).drop
      replace HM := (HM.front 0 rfl rfl).drop
      replace HM := (HM.front 0 rfl rfl).drop
      replace HM := (HM.front 0 rfl rfl).drop
      have hR := Option.some.inj H
      subst hR
      exact at_ret1 rfl rfl ⟨_, rfl, rfl, HM⟩
    · replace H := cond_f hb3255 H
      refine run_skip ?_
      refine at_then ?_
      refine run_seq ?_
      refine run_seq ?_
      obtain ⟨t3256, h3257, H⟩ := bind_some H
      obtain ⟨t3260, h3261, H⟩ := bind_some H
      refine run_draw (fun w_ => Mem w [] w_ [box b3245 50 [.int .i64 t3241.fPrev, .int .i64 t3241.fHeight, .int .i64 t3241.fMiner, u3243], own kInt 2 u3243 t3241.fTxs, own kInt 2 u3235 t3233.fTxs, box b3224 47 [.int .i64 x0.fPrev, .int .i64 x0.fHeight, .int .i64 x0.fMiner, p0_0]]) mixed rfl rfl ?_
      replace HM := HM.grow (fr_drew _)
      have hS := Mem.suf (M := []) HM
      refine drw_take (i := 0) (l' := #[true, false, false, false, false]) rfl (guard_none rfl) rfl rfl (by kernel_rfl) (fun w_ hS_ => (ex_loadN (cs := [(.int .i64 t3241.fPrev), (.int .i64 t3241.fHeight), (.int .i64 t3241.fMiner), u3243]) rfl rfl Try.underlying50 rfl tsz50 rfl ((hS_.box_at 0 rfl).sub 0 4 rfl))) hS ?_
      refine drw_take (i := 1) (l' := #[true, true, false, false, false]) rfl (guard_none rfl) rfl rfl (by kernel_rfl) (fun w_ hS_ => (ex_loadN (cs := [(.int .i64 x0.fPrev), (.int .i64 x0.fHeight), (.int .i64 x0.fMiner), p0_0]) rfl rfl Try.underlying47 rfl tsz47 rfl ((hS_.box_at 3 rfl).sub 0 4 rfl))) hS ?_
      refine drw_one (i := 2) (l' := #[true, true, true, false, false]) rfl (guard_none rfl) rfl rfl (by kernel_rfl) (does_callk rfl callok36 rfl (laws_toBlock.calls (x0 := x0) (HM.rd hp0_0) h3257)) ?_
      rintro _ w3262 ⟨u3258, rfl, hn⟩
      replace HM : Mem w [] w3262 [own kInt 2 u3258 t3256.fTxs, box b3245 50 [.int .i64 t3241.fPrev, .int .i64 t3241.fHeight, .int .i64 t3241.fMiner, u3243], own kInt 2 u3243 t3241.fTxs, own kInt 2 u3235 t3233.fTxs, box b3224 47 [.int .i64 x0.fPrev, .int .i64 x0.fHeight, .int .i64 x0.fMiner, p0_0]] := HM.call hn
      refine ⟨Mem.suf (M := [own kInt 2 u3258 t3256.fTxs]) HM, ?_⟩
      have hS := Mem.suf (M := [own kInt 2 u3258 t3256.fTxs]) HM
      refine drw_one (i := 3) (l' := #[true, true, true, true, false]) rfl (guard_none rfl) rfl rfl (by kernel_rfl) (does_callk rfl callok38 rfl (laws_eqBlock.calls (x0 := t3241) (x1 := t3256) (HM.own_rd 2 rfl) (HM.own_rd 0 rfl) h3261)) ?_
      rintro _ w3263 ⟨rfl, hn⟩
      replace HM : Mem w [] w3263 [own kInt 2 u3258 t3256.fTxs, box b3245 50 [.int .i64 t3241.fPrev, .int .i64 t3241.fHeight, .int .i64 t3241.fMiner, u3243], own kInt 2 u3243 t3241.fTxs, own kInt 2 u3235 t3233.fTxs, box b3224 47 [.int .i64 x0.fPrev, .int .i64 x0.fHeight, .int .i64 x0.fMiner, p0_0]] := HM.call hn
      refine ⟨Mem.suf (M := [own kInt 2 u3258 t3256.fTxs]) HM, ?_⟩
      have hS := Mem.suf (M := [own kInt 2 u3258 t3256.fTxs]) HM
      refine drw_take (i := 4) (l' := #[true, true, true, true, true]) rfl (guard_none rfl) rfl rfl (by kernel_rfl) (fun w_ hS_ => (ex_not rfl rfl)) hS ?_
      refine drw_done (by kernel_rfl) ?_
      refine at_then ?_
      refine run_cond (b := !t3260) rfl (fun hb3264 => ?_) (fun hb3264 => ?_)
      · replace H := cond_t hb3264 H
        refine run_seq ?_
        refine run_region rfl ?_
        refine ops_ex rfl (guard_none rfl) rfl rfl (ex_assign rfl rfl) ?_
        refine ops_nil ?_
        refine at_then ?_
        refine run_ret ?_
        refine at_then_ret ?_
        replace HM := (HM.front 0 rfl rfl).drop
        replace HM := (HM.front 0 rfl rfl).drop
        replace HM := (HM.front 0 rfl rfl).drop
        replace HM := (HM.front 0 rfl rfl).drop
        replace HM := (HM.front 0 rfl rfl).drop
        have hR := Option.some.inj H
        subst hR
        exact at_ret1 rfl rfl ⟨_, rfl, rfl, HM⟩
      · replace H := cond_f hb3264 H
        refine run_skip ?_
        refine at_then ?_
        refine run_seq ?_
        refine run_region rfl ?_
        refine ops_ex rfl (guard_none rfl) rfl rfl (ex_assign rfl rfl) ?_
        refine ops_nil ?_
        refine at_then ?_
        refine run_ret ?_
        replace HM := (HM.front 0 rfl rfl).drop
        replace HM := (HM.front 0 rfl rfl).drop
        replace HM := (HM.front 0 rfl rfl).drop
        replace HM := (HM.front 0 rfl rfl).drop
        replace HM := (HM.front 0 rfl rfl).drop
        have hR := Option.some.inj H
        subst hR
        exact at_ret1 rfl rfl ⟨_, rfl, rfl, HM⟩

def laws_szNodeS.f (k : Nat) (x0 : List Node) (x1 : Int) : Option Int := (bif (decide ((wrap64 (x1 - (x0.length : Int))) < 0)) then some (-1) else some (wrap64 (x1 - (x0.length : Int))))
theorem laws_szNodeS.calls {k : Nat} {x0 : List Node} {x1 : Int} {p0 : Value} {w : World} (hp0 : RdS kNode w p0 x0) {r : Int} (H : laws_szNodeS.f k x0 x1 = some r) :
    Calls Try.prog 39 ([p0, .int .i64 x1] : List Value).toArray w (fun e w_ => ∃ v, e = .returned v ∧ v = (.int .i64 r) ∧ Mem w [] w_ []) := by
  have HM := Mem.start w
  refine calls_run (N := 12) Try.func39 rfl rfl rfl rfl ?_
  unfold laws_szNodeS.f at H
  refine run_seq ?_
  refine run_region rfl ?_
  refine ops_ex rfl (guard_none rfl) rfl rfl (ex_assign rfl rfl) ?_
  refine ops_nil ?_
  refine at_then ?_
  refine run_seq ?_
  refine run_region rfl ?_
  refine ops_ex rfl (guard_none rfl) rfl rfl (ex_move rfl rfl) ?_
  refine ops_ex rfl (guard_none rfl) rfl rfl (ex_move rfl rfl) ?_
  refine ops_ex rfl (guard_none rfl) rfl rfl (ex_len (d := kNode) (xs := x0) rfl rfl Try.underlying54 hp0) ?_
  refine ops_ex rfl (guard_none rfl) rfl rfl (ex_sub rfl rfl rfl) ?_
  refine ops_ex rfl (guard_none rfl) rfl rfl (ex_assign rfl rfl) ?_
  refine ops_nil ?_
  refine at_then ?_
  refine run_seq ?_
  refine run_seq ?_
  refine run_region rfl ?_
  refine ops_ex rfl (guard_none rfl) rfl rfl (ex_move rfl rfl) ?_
  refine ops_ex rfl (guard_none rfl) rfl rfl (ex_lss rfl rfl rfl) ?_
  refine ops_nil ?_
  refine at_then ?_
  refine run_cond (b := (decide ((wrap64 (x1 - (x0.length : Int))) < 0))) rfl (fun hb3266 => ?_) (fun hb3266 => ?_)
  · replace H := cond_t hb3266 H
    refine run_seq ?_
    refine run_region rfl ?_
    refine ops_ex rfl (guard_none rfl) rfl rfl (ex_assign rfl rfl) ?_
    refine ops_nil ?_
    refine at_then ?_
    refine run_ret ?_
    refine at_then_ret ?_
    have hR := Option.some.inj H
    subst hR
    exact at_ret1 rfl rfl ⟨_, rfl, rfl, HM⟩
  · replace H := cond_f hb3266 H
    refine run_skip ?_
    refine at_then ?_
    refine run_seq ?_
    refine run_region rfl ?_
    refine ops_ex rfl (guard_none rfl) rfl rfl (ex_move rfl rfl) ?_
    refine ops_ex rfl (guard_none rfl) rfl rfl (ex_assign rfl rfl) ?_
    refine ops_nil ?_
    refine at_then ?_
    refine run_ret ?_
    have hR := Option.some.inj H
    subst hR
    exact at_ret1 rfl rfl ⟨_, rfl, rfl, HM⟩

def laws_toNode.f (k : Nat) (x0 : Node) : Option Node := some x0
theorem laws_toNode.calls {k : Nat} {x0 : Node}  {w : World}  {r : Node} (H : laws_toNode.f k x0 = some r) :
    Calls Try.prog 82 ([.agg #[(.int .i64 x0.fId), (.int .i64 x0.fPrev), (.int .i64 x0.fHeight)]] : List Value).toArray w (fun e w_ => ∃ v, e = .returned v ∧ v = (.agg #[.int .i64 r.fId, .int .i64 r.fPrev, .int .i64 r.fHeight]) ∧ Mem w [] w_ []) := by
  have HM := Mem.start w
  refine calls_run (N := 14) Try.func82 rfl rfl rfl rfl ?_
  unfold laws_toNode.f at H
  refine run_seq ?_
  refine run_region rfl ?_
  refine ops_does rfl (guard_none rfl) rfl rfl (does_box (cs := [.int .i64 x0.fId, .int .i64 x0.fPrev, .int .i64 x0.fHeight]) rfl rfl rfl HM) ?_
  rintro _ w3294 ⟨b3288, rfl, HM⟩
  refine ops_does rfl (guard_none rfl) rfl rfl (does_alloc (cs := [.int .i64 0, .int .i64 0, .int .i64 0]) rfl tz113 rfl HM) ?_
  rintro _ w3295 ⟨b3291, rfl, HM⟩
  refine ops_nil ?_
  refine at_then ?_
  refine run_seq ?_
  refine run_region rfl ?_
  refine ops_does rfl (guard_none rfl) rfl rfl (does_alloc (cs := [.int .i64 0, .int .i64 0, .int .i64 0]) rfl tz113 rfl HM) ?_
  rintro _ w3299 ⟨b3296, rfl, HM⟩
  refine ops_nil ?_
  refine at_then ?_
  refine run_seq ?_
  refine run_region rfl ?_
  refine ops_ex rfl (guard_none rfl) rfl rfl (ex_fieldAddr (off' := 0) rfl rfl Try.underlying115 rfl tsz2 rfl) ?_
  refine ops_ex rfl (guard_none rfl) rfl rfl (ex_load1 rfl rfl Try.underlying2 rfl ((HM.box_at 2 rfl) 0 _ rfl)) ?_
  refine ops_ex rfl (guard_none rfl) rfl rfl (ex_fieldAddr (off' := 0) rfl rfl Try.underlying113 rfl tsz2 rfl) ?_
  refine ops_doesS rfl (guard_none rfl) rfl (does_store (vs := [.int .i64 x0.fId]) (cs' := [.int .i64 x0.fId, .int .i64 0, .int .i64 0]) rfl rfl rfl rfl tsz2 (Ones.int Ones.nil) rfl rfl HM) ?_
  rintro w3300 HM
  refine ops_nil ?_
  refine at_then ?_
  refine run_seq ?_
  refine run_region rfl ?_
  refine ops_ex rfl (guard_none rfl) rfl rfl (ex_fieldAddr (off' := 1) rfl rfl Try.underlying115 rfl tsz2 rfl) ?_
  refine ops_ex rfl (guard_none rfl) rfl rfl (ex_load1 rfl rfl Try.underlying2 rfl ((HM.box_at 2 rfl) 1 _ rfl)) ?_
  refine ops_ex rfl (guard_none rfl) rfl rfl (ex_fieldAddr (off' := 1) rfl rfl Try.underlying113 rfl tsz2 rfl) ?_
  refine ops_doesS rfl (guard_none rfl) rfl (does_store (vs := [.int .i64 x0.fPrev]) (cs' := [.int .i64 x0.fId, .int .i64 x0.fPrev, .int .i64 0]) rfl rfl rfl rfl tsz2 (Ones.int Ones.nil) rfl rfl HM) ?_
  rintro w3301 HM
  refine ops_nil ?_
  refine at_then ?_
  refine run_seq ?_
  refine run_region rfl ?_
  refine ops_ex rfl (guard_none rfl) rfl rfl (ex_fieldAddr (off' := 2) rfl rfl Try.underlying115 rfl tsz2 rfl) ?_
  refine ops_ex rfl (guard_none rfl) rfl rfl (ex_load1 rfl rfl Try.underlying2 rfl ((HM.box_at 2 rfl) 2 _ rfl)) ?_
  refine ops_ex rfl (guard_none rfl) rfl rfl (ex_fieldAddr (off' := 2) rfl rfl Try.underlying113 rfl tsz2 rfl) ?_
  refine ops_doesS rfl (guard_none rfl) rfl (does_store (vs := [.int .i64 x0.fHeight]) (cs' := [.int .i64 x0.fId, .int .i64 x0.fPrev, .int .i64 x0.fHeight]) rfl rfl rfl rfl tsz2 (Ones.int Ones.nil) rfl rfl HM) ?_
  rintro w3302 HM
  refine ops_nil ?_
  refine at_then ?_
  refine run_seq ?_
  refine run_region rfl ?_
  refine ops_ex rfl (guard_none rfl) rfl rfl (ex_loadN (cs := [(.int .i64 x0.fId), (.int .i64 x0.fPrev), (.int .i64 x0.fHeight)]) rfl rfl Try.underlying113 rfl tsz113 rfl ((HM.box_at 0 rfl).sub 0 3 rfl)) ?_
  replace HM := HM.front 1 rfl rfl
  refine ops_doesS rfl (guard_none rfl) rfl (does_store (vs := [.int .i64 x0.fId, .int .i64 x0.fPrev, .int .i64 x0.fHeight]) (cs' := [.int .i64 x0.fId, .int .i64 x0.fPrev, .int .i64 x0.fHeight]) rfl rfl rfl rfl tsz113 (Ones.int (Ones.int (Ones.int Ones.nil))) rfl rfl HM) ?_
  rintro w3303 HM
  refine ops_nil ?_
  refine at_then ?_
  refine run_ret ?_
  replace HM := (HM.front 1 rfl rfl).drop
  replace HM := (HM.front 1 rfl rfl).drop
  have hcb0 := HM.box_at 0 rfl
  replace HM := (HM.front 0 rfl rfl).drop
  have hR := Option.some.inj H
  subst hR
  exact at_retN rfl rfl Try.underlying113 rfl tsz113 rfl hcb0 ⟨_, rfl, rfl, HM⟩

def laws_toNodeS.l0 (x0 : List Node) : Nat → (List Node) → Int → Option ((List Node))
  | 0, _, _ => none
  | k + 1, a3368, a3370 => (bif (decide (a3370 < (x0.length : Int))) then (chk (idxOk a3370 x0.length) ((laws_toNode.f k (gt x0 a3370)).bind fun t3382 => (chk (idxOk a3370 a3368.length) (laws_toNodeS.l0 x0 k (a3368.set (a3370).toNat t3382) (wrap64 (a3370 + 1)))))) else some a3368)
theorem laws_toNodeS.l0_z (x0 : List Node) (a3368 : List Node) (a3370 : Int) : laws_toNodeS.l0 x0 0 a3368 a3370 = none := rfl
theorem laws_toNodeS.l0_s (x0 : List Node) (k : Nat) (a3368 : List Node) (a3370 : Int) : laws_toNodeS.l0 x0 (k + 1) a3368 a3370 = (bif (decide (a3370 < (x0.length : Int))) then (chk (idxOk a3370 x0.length) ((laws_toNode.f k (gt x0 a3370)).bind fun t3382 => (chk (idxOk a3370 a3368.length) (laws_toNodeS.l0 x0 k (a3368.set (a3370).toNat t3382) (wrap64 (a3370 + 1)))))) else some a3368) := rfl
def laws_toNodeS.f (k : Nat) (x0 : List Node) : Option ((List Node)) := (chk (decide (0 ≤ (x0.length : Int))) (chk (leB (((x0.length : Int)).toNat * 24) 281474976710656) ((laws_toNodeS.l0 x0 k (List.replicate ((x0.length : Int)).toNat (⟨0, 0, 0⟩ : Node)) 0).bind (fun a3357 => some a3357))))
theorem laws_toNodeS.calls {k : Nat} {x0 : List Node} {p0 : Value} {w : World} (hp0 : RdS kNode w p0 x0) {r : (List Node)} (H : laws_toNodeS.f k x0 = some r) :
    Calls Try.prog 41 ([p0] : List Value).toArray w (fun e w_ => ∃ v, e = .returned v ∧ ∃ u0 : Value, v = u0 ∧ Mem w [] w_ [own kNode 113 u0 r]) := by
  have HM := Mem.start w
  refine calls_run (N := 23) Try.func41 rfl rfl rfl rfl ?_
  unfold laws_toNodeS.f at H
  refine run_seq ?_
  refine run_region rfl ?_
  refine ops_ex rfl (guard_none rfl) rfl rfl (ex_assign rfl rfl) ?_
  refine ops_nil ?_
  refine at_then ?_
  refine run_seq ?_
  obtain ⟨e3331, H⟩ := chk_some H
  obtain ⟨e3332, H⟩ := chk_some H
  refine run_region rfl ?_
  refine ops_ex rfl (guard_none rfl) rfl rfl (ex_move rfl rfl) ?_
  refine ops_ex rfl (guard_none rfl) rfl rfl (ex_len (d := kNode) (xs := x0) rfl rfl Try.underlying54 hp0) ?_
  refine ops_does rfl (guard_none rfl) rfl rfl (does_make (x := (⟨0, 0, 0⟩ : Node)) kNode rfl rfl rfl Try.underlying57 tsz113 tby113 tz113 rfl rfl (fun _ => ⟨rfl, rfl⟩) (of_decide_eq_true e3331) rfl (leB_le e3332) rfl HM) ?_
  rintro v3328 w3333 HM
  refine ops_ex rfl (guard_none rfl) rfl rfl (ex_assign rfl rfl) ?_
  refine ops_nil ?_
  refine at_then ?_
  obtain ⟨o3359, ho3360, H⟩ := bind_some H
  refine run_mid (fun ρ_ w_ => ∃ v3356 : Value, ∃ a3357 : List Node, a3357 = o3359 ∧ ρ_ = [(3, v3356)] ∧ Mem w [] w_ [own kNode 113 v3356 a3357]) ?_ ?_
  · clear H
    refine run_seq ?_
    refine run_region rfl ?_
    refine ops_ex rfl (guard_none rfl) rfl rfl (ex_assign rfl rfl) ?_
    refine ops_nil ?_
    refine at_then ?_
    refine run_block ?_
    refine run_loop (fun k_ ρ_ w_ => ∃ v3367 : Value, ∃ a3368 : List Node, ∃ a3370 : Int, laws_toNodeS.l0 x0 k_ a3368 a3370 = some o3359 ∧ ρ_ = [(0, p0), (3, v3367), (4, .int .i64 a3370)] ∧ Mem w [] w_ [own kNode 113 v3367 a3368]) k (ρ1 := [(0, p0), (3, v3328), (4, .int .i64 0)]) ⟨_, _, _, ho3360, rfl, HM⟩ (Sub.cons rfl (Sub.cons rfl (Sub.cons rfl Sub.nil))) ?_
    clear HM ho3360
    rintro k3377 _ w3378 ⟨v3367, a3368, a3370, ho3360, rfl, HM⟩
    obtain _ | k3377 := k3377
    · exact nomatch ((laws_toNodeS.l0_z x0 a3368 a3370).symm.trans ho3360)
    replace ho3360 := (laws_toNodeS.l0_s x0 k3377 a3368 a3370).symm.trans ho3360
    refine run_seq ?_
    refine run_seq ?_
    refine run_region rfl ?_
    refine ops_ex rfl (guard_none rfl) rfl rfl (ex_move rfl rfl) ?_
    refine ops_ex rfl (guard_none rfl) rfl rfl (ex_move rfl rfl) ?_
    refine ops_ex rfl (guard_none rfl) rfl rfl (ex_len (d := kNode) (xs := x0) rfl rfl Try.underlying54 hp0) ?_
    refine ops_ex rfl (guard_none rfl) rfl rfl (ex_lss rfl rfl rfl) ?_
    refine ops_nil ?_
    refine at_then ?_
    refine run_cond (b := (decide (a3370 < (x0.length : Int)))) rfl (fun hb3379 => ?_) (fun hb3379 => ?_)
    · replace ho3360 := cond_t hb3379 ho3360
      refine run_skip ?_
      refine at_then ?_
      refine run_seq ?_
      refine run_block ?_
      obtain ⟨e3380, ho3360⟩ := chk_some ho3360
      obtain ⟨t3382, h3383, ho3360⟩ := bind_some ho3360
      obtain ⟨e3384, ho3360⟩ := chk_some ho3360
      refine run_region rfl ?_
      refine ops_ex rfl (guard_none rfl) rfl rfl (ex_move rfl rfl) ?_
      refine ops_ex rfl (guard_none rfl) rfl rfl (ex_move rfl rfl) ?_
      refine ops_ex rfl (guard_none rfl) rfl rfl (ex_move rfl rfl) ?_
      refine ops_ex rfl (guard_none rfl) rfl rfl (ex_move rfl rfl) ?_
      have hc3381 : CellsAt _ (sb p0) (so p0 + (a3370).toNat * 3) [(.int .i64 ((gt x0 a3370).fId)), (.int .i64 ((gt x0 a3370).fPrev)), (.int .i64 ((gt x0 a3370).fHeight))] := rd_plain hp0 e3380
      refine ops_ex rfl (guard_none rfl) rfl rfl (ex_indexAddr (d := kNode) rfl rfl rfl Try.underlying54 tsz115 hp0 (idx_lo e3380) (idx_hi e3380)) ?_
      refine ops_ex rfl (guard_none rfl) rfl rfl (ex_loadN (cs := [(.int .i64 ((gt x0 a3370).fId)), (.int .i64 ((gt x0 a3370).fPrev)), (.int .i64 ((gt x0 a3370).fHeight))]) rfl rfl Try.underlying115 rfl tsz115 rfl ((HM.at_ hc3381).sub 0 3 rfl)) ?_
      refine ops_does rfl (guard_none rfl) rfl rfl (does_callk rfl callok82 rfl (laws_toNode.calls (x0 := (gt x0 a3370)) h3383)) ?_
      rintro _ w3385 ⟨rfl, hn⟩
      replace HM : Mem w [] w3385 [own kNode 113 v3367 a3368] := HM.call hn
      refine ops_ex rfl (guard_none rfl) rfl rfl (ex_indexAddr (d := kNode) rfl rfl rfl Try.underlying57 tsz113 (HM.own_rd 0 rfl) (idx_lo e3384) (idx_hi e3384)) ?_
      refine ops_doesS rfl (guard_none rfl) rfl (does_setElem (vs := [(.int .i64 t3382.fId), (.int .i64 t3382.fPrev), (.int .i64 t3382.fHeight)]) (y := t3382) kNode rfl rfl rfl rfl rfl tsz113 rfl rfl (idx_nat e3384) (fun _ _ h => ⟨rfl, h⟩) (HM.emp.front 1 rfl rfl)) ?_
      rintro w3386 HM
      refine ops_nil ?_
      refine at_block ?_
      refine at_then ?_
      refine run_region rfl ?_
      refine ops_ex rfl (guard_none rfl) rfl rfl (ex_move rfl rfl) ?_
      refine ops_ex rfl (guard_none rfl) rfl rfl (ex_add rfl rfl rfl) ?_
      refine ops_ex rfl (guard_none rfl) rfl rfl (ex_assign rfl rfl) ?_
      refine ops_nil ?_
      exact at_again k3377 (ρ1 := [(0, p0), (3, v3367), (4, .int .i64 (wrap64 (a3370 + 1)))]) (Nat.lt_succ_self _) ⟨_, _, _, ho3360, rfl, HM⟩ (Sub.cons rfl (Sub.cons rfl (Sub.cons rfl Sub.nil)))
    · replace ho3360 := cond_f hb3379 ho3360
      refine run_exit ?_
      refine at_then_exit ?_
      refine at_then_exit ?_
      refine at_block_exit ?_
      exact at_mid (ρ' := [(3, v3367)]) ⟨_, _, (Option.some.inj ho3360), rfl, HM⟩ (Sub.cons rfl Sub.nil)
  · rintro _ w3387 ⟨v3356, a3357, rfl, rfl, HM⟩
    refine run_seq ?_
    refine run_region rfl ?_
    refine ops_ex rfl (guard_none rfl) rfl rfl (ex_move rfl rfl) ?_
    refine ops_ex rfl (guard_none rfl) rfl rfl (ex_assign rfl rfl) ?_
    refine ops_nil ?_
    refine at_then ?_
    refine run_ret ?_
    have hR := Option.some.inj H
    subst hR
    exact at_ret1 rfl rfl ⟨_, rfl, _, rfl, HM⟩

def spec_l9At.l0 (x0 : List Node) (x1 : Int) : Nat → Int → Option (Int ⊕ Unit)
  | 0, _ => none
  | k + 1, a3448 => (bif (decide (a3448 < (x0.length : Int))) then (chk (idxOk a3448 x0.length) (bif (((gt x0 a3448).fId) == x1) then some (.inl a3448) else spec_l9At.l0 x0 x1 k (wrap64 (a3448 + 1)))) else some (.inr ()))
theorem spec_l9At.l0_z (x0 : List Node) (x1 : Int) (a3448 : Int) : spec_l9At.l0 x0 x1 0 a3448 = none := rfl
theorem spec_l9At.l0_s (x0 : List Node) (x1 : Int) (k : Nat) (a3448 : Int) : spec_l9At.l0 x0 x1 (k + 1) a3448 = (bif (decide (a3448 < (x0.length : Int))) then (chk (idxOk a3448 x0.length) (bif (((gt x0 a3448).fId) == x1) then some (.inl a3448) else spec_l9At.l0 x0 x1 k (wrap64 (a3448 + 1)))) else some (.inr ())) := rfl
def spec_l9At.f (k : Nat) (x0 : List Node) (x1 : Int) : Option Int := ((spec_l9At.l0 x0 x1 k 0).bind fun o3442 => thn o3442 (fun r => some r) (fun _ => some (-1)))
theorem spec_l9At.calls {k : Nat} {x0 : List Node} {x1 : Int} {p0 : Value} {w : World} (hp0 : RdS kNode w p0 x0) {r : Int} (H : spec_l9At.f k x0 x1 = some r) :
    Calls Try.prog 121 ([p0, .int .i64 x1] : List Value).toArray w (fun e w_ => ∃ v, e = .returned v ∧ v = (.int .i64 r) ∧ Mem w [] w_ []) := by
  have HM := Mem.start w
  refine calls_run (N := 20) Try.func121 rfl rfl rfl rfl ?_
  unfold spec_l9At.f at H
  refine run_seq ?_
  refine run_region rfl ?_
  refine ops_ex rfl (guard_none rfl) rfl rfl (ex_assign rfl rfl) ?_
  refine ops_nil ?_
  refine at_then ?_
  obtain ⟨o3442, ho3443, H⟩ := bind_some H
  refine run_mid (fun ρ_ w_ => Sum.inr () = o3442 ∧ ρ_ = [] ∧ Mem w [] w_ []) ?_ ?_
  · skip
    refine run_seq ?_
    refine run_region rfl ?_
    refine ops_ex rfl (guard_none rfl) rfl rfl (ex_assign rfl rfl) ?_
    refine ops_nil ?_
    refine at_then ?_
    refine run_block ?_
    refine run_loop (fun k_ ρ_ w_ => ∃ a3448 : Int, spec_l9At.l0 x0 x1 k_ a3448 = some o3442 ∧ ρ_ = [(0, p0), (1, .int .i64 x1), (5, .int .i64 a3448)] ∧ Mem w [] w_ []) k (ρ1 := [(0, p0), (1, .int .i64 x1), (5, .int .i64 0)]) ⟨_, ho3443, rfl, HM⟩ (Sub.cons rfl (Sub.cons rfl (Sub.cons rfl Sub.nil))) ?_
    clear HM ho3443
    rintro k3453 _ w3454 ⟨a3448, ho3443, rfl, HM⟩
    obtain _ | k3453 := k3453
    · exact nomatch ((spec_l9At.l0_z x0 x1 a3448).symm.trans ho3443)
    replace ho3443 := (spec_l9At.l0_s x0 x1 k3453 a3448).symm.trans ho3443
    refine run_seq ?_
    refine run_seq ?_
    refine run_region rfl ?_
    refine ops_ex rfl (guard_none rfl) rfl rfl (ex_move rfl rfl) ?_
    refine ops_ex rfl (guard_none rfl) rfl rfl (ex_move rfl rfl) ?_
    refine ops_ex rfl (guard_none rfl) rfl rfl (ex_len (d := kNode) (xs := x0) rfl rfl Try.underlying57 hp0) ?_
    refine ops_ex rfl (guard_none rfl) rfl rfl (ex_lss rfl rfl rfl) ?_
    refine ops_nil ?_
    refine at_then ?_
    refine run_cond (b := (decide (a3448 < (x0.length : Int)))) rfl (fun hb3455 => ?_) (fun hb3455 => ?_)
    · replace ho3443 := cond_t hb3455 ho3443
      refine run_skip ?_
      refine at_then ?_
      refine run_seq ?_
      refine run_block ?_
      refine run_seq ?_
      obtain ⟨e3456, ho3443⟩ := chk_some ho3443
      refine run_region rfl ?_
      refine ops_ex rfl (guard_none rfl) rfl rfl (ex_move rfl rfl) ?_
      refine ops_ex rfl (guard_none rfl) rfl rfl (ex_move rfl rfl) ?_
      have hc3457 : CellsAt _ (sb p0) (so p0 + (a3448).toNat * 3) [(.int .i64 ((gt x0 a3448).fId)), (.int .i64 ((gt x0 a3448).fPrev)), (.int .i64 ((gt x0 a3448).fHeight))] := rd_plain hp0 e3456
      refine ops_ex rfl (guard_none rfl) rfl rfl (ex_indexAddr (d := kNode) rfl rfl rfl Try.underlying57 tsz113 hp0 (idx_lo e3456) (idx_hi e3456)) ?_
      refine ops_ex rfl (guard_none rfl) rfl rfl (ex_fieldAddr (off' := so p0 + (a3448).toNat * 3) rfl rfl Try.underlying113 rfl tsz2 rfl) ?_
      refine ops_ex rfl (guard_none rfl) rfl rfl (ex_load1 rfl rfl Try.underlying2 rfl ((HM.at_ hc3457) 0 _ rfl)) ?_
      refine ops_ex rfl (guard_none rfl) rfl rfl (ex_move rfl rfl) ?_
      refine ops_ex rfl (guard_none rfl) rfl rfl (ex_eql rfl rfl rfl) ?_
      refine ops_nil ?_
      refine at_then ?_
      refine run_cond (b := (((gt x0 a3448).fId) == x1)) rfl (fun hb3458 => ?_) (fun hb3458 => ?_)
      · replace ho3443 := cond_t hb3458 ho3443
        refine run_seq ?_
        refine run_region rfl ?_
        refine ops_ex rfl (guard_none rfl) rfl rfl (ex_move rfl rfl) ?_
        refine ops_ex rfl (guard_none rfl) rfl rfl (ex_assign rfl rfl) ?_
        refine ops_nil ?_
        refine at_then ?_
        refine run_ret ?_
        refine at_block_ret ?_
        refine at_then_ret ?_
        refine at_then_ret ?_
        refine at_block_ret ?_
        refine at_then_ret ?_
        have hR := Option.some.inj ho3443
        subst hR
        have hT := thn_inl H
        have hR := Option.some.inj hT
        subst hR
        exact at_ret1 rfl rfl ⟨_, rfl, rfl, HM⟩
      · replace ho3443 := cond_f hb3458 ho3443
        refine run_skip ?_
        refine at_block ?_
        refine at_then ?_
        refine run_region rfl ?_
        refine ops_ex rfl (guard_none rfl) rfl rfl (ex_move rfl rfl) ?_
        refine ops_ex rfl (guard_none rfl) rfl rfl (ex_add rfl rfl rfl) ?_
        refine ops_ex rfl (guard_none rfl) rfl rfl (ex_assign rfl rfl) ?_
        refine ops_nil ?_
        exact at_again k3453 (ρ1 := [(0, p0), (1, .int .i64 x1), (5, .int .i64 (wrap64 (a3448 + 1)))]) (Nat.lt_succ_self _) ⟨_, ho3443, rfl, HM⟩ (Sub.cons rfl (Sub.cons rfl (Sub.cons rfl Sub.nil)))
    · replace ho3443 := cond_f hb3455 ho3443
      refine run_exit ?_
      refine at_then_exit ?_
      refine at_then_exit ?_
      refine at_block_exit ?_
      exact at_mid (ρ' := []) ⟨(Option.some.inj ho3443), rfl, HM⟩ Sub.nil
  · rintro _ w3459 ⟨rfl, rfl, HM⟩
    replace H := (thn_inr H)
    refine run_seq ?_
    refine run_region rfl ?_
    refine ops_ex rfl (guard_none rfl) rfl rfl (ex_assign rfl rfl) ?_
    refine ops_nil ?_
    refine at_then ?_
    refine run_ret ?_
    have hR := Option.some.inj H
    subst hR
    exact at_ret1 rfl rfl ⟨_, rfl, rfl, HM⟩

def spec_l9Node.f (k : Nat) (x0 : List Node) (x1 : Node) : Option Int := ((spec_l1In.f k x1.fId 1 60).bind fun t3493 => ((bif (!(!t3493)) then spec_l1In.f k x1.fHeight 1 40 else some default).bind fun t3495 => (bif ((!t3493) || (!t3495)) then some 3 else ((spec_l9At.f k x0 x1.fId).bind fun t3506 => (bif (decide (0 ≤ t3506)) then some 7 else ((bif (x1.fPrev != 0) then ((spec_l9At.f k x0 x1.fPrev).bind fun t3528 => (bif (decide (t3528 < 0)) then some (.inl 4) else (chk (idxOk t3528 x0.length) (some (.inr ((gt x0 t3528).fHeight)))))) else some (.inr 0)).bind fun o3525 => thn o3525 (fun r => some r) (fun a3524 => (bif (x1.fHeight != (wrap64 (a3524 + 1))) then some 1 else some 0))))))))
theorem spec_l9Node.calls {k : Nat} {x0 : List Node} {x1 : Node} {p0 : Value} {w : World} (hp0 : RdS kNode w p0 x0) {r : Int} (H : spec_l9Node.f k x0 x1 = some r) :
    Calls Try.prog 112 ([p0, .agg #[(.int .i64 x1.fId), (.int .i64 x1.fPrev), (.int .i64 x1.fHeight)]] : List Value).toArray w (fun e w_ => ∃ v, e = .returned v ∧ v = (.int .i64 r) ∧ Mem w [] w_ []) := by
  have HM := Mem.start w
  refine calls_run (N := 41) Try.func112 rfl rfl rfl rfl ?_
  unfold spec_l9Node.f at H
  refine run_seq ?_
  refine run_region rfl ?_
  refine ops_does rfl (guard_none rfl) rfl rfl (does_box (cs := [.int .i64 x1.fId, .int .i64 x1.fPrev, .int .i64 x1.fHeight]) rfl rfl rfl HM) ?_
  rintro _ w3487 ⟨b3484, rfl, HM⟩
  refine ops_ex rfl (guard_none rfl) rfl rfl (ex_assign rfl rfl) ?_
  refine ops_nil ?_
  refine at_then ?_
  refine run_seq ?_
  refine run_seq ?_
  obtain ⟨t3493, h3494, H⟩ := bind_some H
  obtain ⟨t3495, h3496, H⟩ := bind_some H
  refine run_meet (fun ρ_ w_ => ρ_ = [(0, p0), (3, .pointer (some ⟨b3484, 0, none⟩)), (16, .bool ((!t3493) || (!t3495)))] ∧ Mem w [] w_ [box b3484 113 [.int .i64 x1.fId, .int .i64 x1.fPrev, .int .i64 x1.fHeight]]) ?_ ?_
  · skip
    refine run_region rfl ?_
    refine ops_ex rfl (guard_none rfl) rfl rfl (ex_fieldAddr (off' := 0) rfl rfl Try.underlying113 rfl tsz2 rfl) ?_
    refine ops_ex rfl (guard_none rfl) rfl rfl (ex_load1 rfl rfl Try.underlying2 rfl ((HM.box_at 0 rfl) 0 _ rfl)) ?_
    refine ops_does rfl (guard_none rfl) rfl rfl (does_callk rfl callok56 rfl (spec_l1In.calls (x0 := x1.fId) (x1 := 1) (x2 := 60) h3494)) ?_
    rintro _ w3497 ⟨rfl, hn⟩
    replace HM : Mem w [] w3497 [box b3484 113 [.int .i64 x1.fId, .int .i64 x1.fPrev, .int .i64 x1.fHeight]] := HM.call hn
    refine ops_ex rfl (guard_none rfl) rfl rfl (ex_not rfl rfl) ?_
    refine ops_ex rfl (guard_none rfl) rfl rfl (ex_move rfl rfl) ?_
    refine bool_cases (!t3493) (fun hg3498 => ?_) (fun hg3498 => ?_)
    · skip
      refine ops_off rfl (guard_off rfl rfl rfl hg3498) rfl rfl ?_
      refine ops_off rfl (guard_off rfl rfl rfl hg3498) rfl rfl ?_
      refine ops_off rfl (guard_off rfl rfl rfl hg3498) rfl rfl ?_
      refine ops_off rfl (guard_off rfl rfl rfl hg3498) rfl rfl ?_
      have hg3499 : ((!t3493) || (!t3495)) = true := by simp only [hg3498, Bool.and_true, Bool.true_and, Bool.and_false, Bool.false_and, Bool.or_true, Bool.true_or, Bool.or_false, Bool.false_or, Bool.not_true, Bool.not_false, Bool.not_not]
      refine ops_ex (v := .bool ((!t3493) || (!t3495))) rfl (guard_none rfl) rfl rfl (ex_por_t rfl rfl hg3498) ?_
      refine ops_nil ?_
      exact at_meet [(0, p0), (3, .pointer (some ⟨b3484, 0, none⟩)), (16, .bool ((!t3493) || (!t3495)))] ⟨rfl, HM⟩ (Sub.cons rfl (Sub.cons rfl (Sub.cons rfl Sub.nil)))
    · skip
      refine ops_ex rfl (guard_on rfl rfl rfl hg3498) rfl rfl (ex_fieldAddr (off' := 2) rfl rfl Try.underlying113 rfl tsz2 rfl) ?_
      refine ops_ex rfl (guard_on rfl rfl rfl hg3498) rfl rfl (ex_load1 rfl rfl Try.underlying2 rfl ((HM.box_at 0 rfl) 2 _ rfl)) ?_
      refine ops_does rfl (guard_on rfl rfl rfl hg3498) rfl rfl (does_callk rfl callok56 rfl (spec_l1In.calls (x0 := x1.fHeight) (x1 := 1) (x2 := 40) (cond_t (not_mk hg3498) h3496))) ?_
      rintro _ w3500 ⟨rfl, hn⟩
      replace HM : Mem w [] w3500 [box b3484 113 [.int .i64 x1.fId, .int .i64 x1.fPrev, .int .i64 x1.fHeight]] := HM.call hn
      refine ops_ex rfl (guard_on rfl rfl rfl hg3498) rfl rfl (ex_not rfl rfl) ?_
      refine ops_ex (v := .bool ((!t3493) || (!t3495))) rfl (guard_none rfl) rfl rfl (ex_por_f rfl rfl hg3498 rfl) ?_
      refine ops_nil ?_
      exact at_meet [(0, p0), (3, .pointer (some ⟨b3484, 0, none⟩)), (16, .bool ((!t3493) || (!t3495)))] ⟨rfl, HM⟩ (Sub.cons rfl (Sub.cons rfl (Sub.cons rfl Sub.nil)))
  · rintro _ w3501 ⟨rfl, HM⟩
    refine at_then ?_
    refine run_cond (b := ((!t3493) || (!t3495))) rfl (fun hb3502 => ?_) (fun hb3502 => ?_)
    · replace H := cond_t hb3502 H
      refine run_seq ?_
      refine run_region rfl ?_
      refine ops_ex rfl (guard_none rfl) rfl rfl (ex_assign rfl rfl) ?_
      refine ops_nil ?_
      refine at_then ?_
      refine run_ret ?_
      refine at_then_ret ?_
      replace HM := (HM.front 0 rfl rfl).drop
      have hR := Option.some.inj H
      subst hR
      exact at_ret1 rfl rfl ⟨_, rfl, rfl, HM⟩
    · replace H := cond_f hb3502 H
      refine run_skip ?_
      refine at_then ?_
      refine run_seq ?_
      refine run_seq ?_
      obtain ⟨t3506, h3507, H⟩ := bind_some H
      refine run_region rfl ?_
      refine ops_ex rfl (guard_none rfl) rfl rfl (ex_move rfl rfl) ?_
      refine ops_ex rfl (guard_none rfl) rfl rfl (ex_fieldAddr (off' := 0) rfl rfl Try.underlying113 rfl tsz2 rfl) ?_
      refine ops_ex rfl (guard_none rfl) rfl rfl (ex_load1 rfl rfl Try.underlying2 rfl ((HM.box_at 0 rfl) 0 _ rfl)) ?_
      refine ops_does rfl (guard_none rfl) rfl rfl (does_callk rfl callok121 rfl (spec_l9At.calls (x0 := x0) (x1 := x1.fId) (HM.rd hp0) h3507)) ?_
      rintro _ w3508 ⟨rfl, hn⟩
      replace HM : Mem w [] w3508 [box b3484 113 [.int .i64 x1.fId, .int .i64 x1.fPrev, .int .i64 x1.fHeight]] := HM.call hn
      refine ops_ex rfl (guard_none rfl) rfl rfl (ex_geq rfl rfl rfl) ?_
      refine ops_nil ?_
      refine at_then ?_
      refine run_cond (b := (decide (0 ≤ t3506))) rfl (fun hb3509 => ?_) (fun hb3509 => ?_)
      · replace H := cond_t hb3509 H
        refine run_seq ?_
        refine run_region rfl ?_
        refine ops_ex rfl (guard_none rfl) rfl rfl (ex_assign rfl rfl) ?_
        refine ops_nil ?_
        refine at_then ?_
        refine run_ret ?_
        refine at_then_ret ?_
        replace HM := (HM.front 0 rfl rfl).drop
        have hR := Option.some.inj H
        subst hR
        exact at_ret1 rfl rfl ⟨_, rfl, rfl, HM⟩
      · replace H := cond_f hb3509 H
        refine run_skip ?_
        refine at_then ?_
        refine run_seq ?_
        refine run_region rfl ?_
        refine ops_ex rfl (guard_none rfl) rfl rfl (ex_assign rfl rfl) ?_
        refine ops_nil ?_
        refine at_then ?_
        obtain ⟨o3525, ho3526, H⟩ := bind_some H
        refine run_mid (fun ρ_ w_ => ∃ a3524 : Int, Sum.inr a3524 = o3525 ∧ ρ_ = [(3, .pointer (some ⟨b3484, 0, none⟩)), (5, .int .i64 a3524)] ∧ Mem w [] w_ [box b3484 113 [.int .i64 x1.fId, .int .i64 x1.fPrev, .int .i64 x1.fHeight]]) ?_ ?_
        · skip
          refine run_seq ?_
          refine run_region rfl ?_
          refine ops_ex rfl (guard_none rfl) rfl rfl (ex_fieldAddr (off' := 1) rfl rfl Try.underlying113 rfl tsz2 rfl) ?_
          refine ops_ex rfl (guard_none rfl) rfl rfl (ex_load1 rfl rfl Try.underlying2 rfl ((HM.box_at 0 rfl) 1 _ rfl)) ?_
          refine ops_ex rfl (guard_none rfl) rfl rfl (ex_neq rfl rfl rfl) ?_
          refine ops_nil ?_
          refine at_then ?_
          refine run_cond (b := (x1.fPrev != 0)) rfl (fun hb3527 => ?_) (fun hb3527 => ?_)
          · replace ho3526 := cond_t hb3527 ho3526
            refine run_seq ?_
            obtain ⟨t3528, h3529, ho3526⟩ := bind_some ho3526
            refine run_region rfl ?_
            refine ops_ex rfl (guard_none rfl) rfl rfl (ex_move rfl rfl) ?_
            refine ops_ex rfl (guard_none rfl) rfl rfl (ex_fieldAddr (off' := 1) rfl rfl Try.underlying113 rfl tsz2 rfl) ?_
            refine ops_ex rfl (guard_none rfl) rfl rfl (ex_load1 rfl rfl Try.underlying2 rfl ((HM.box_at 0 rfl) 1 _ rfl)) ?_
            refine ops_does rfl (guard_none rfl) rfl rfl (does_callk rfl callok121 rfl (spec_l9At.calls (x0 := x0) (x1 := x1.fPrev) (HM.rd hp0) h3529)) ?_
            rintro _ w3530 ⟨rfl, hn⟩
            replace HM : Mem w [] w3530 [box b3484 113 [.int .i64 x1.fId, .int .i64 x1.fPrev, .int .i64 x1.fHeight]] := HM.call hn
            refine ops_ex rfl (guard_none rfl) rfl rfl (ex_assign rfl rfl) ?_
            refine ops_nil ?_
            refine at_then ?_
            refine run_seq ?_
            refine run_seq ?_
            refine run_region rfl ?_
            refine ops_ex rfl (guard_none rfl) rfl rfl (ex_move rfl rfl) ?_
            refine ops_ex rfl (guard_none rfl) rfl rfl (ex_lss rfl rfl rfl) ?_
            refine ops_nil ?_
            refine at_then ?_
            refine run_cond (b := (decide (t3528 < 0))) rfl (fun hb3532 => ?_) (fun hb3532 => ?_)
            · replace ho3526 := cond_t hb3532 ho3526
              refine run_seq ?_
              refine run_region rfl ?_
              refine ops_ex rfl (guard_none rfl) rfl rfl (ex_assign rfl rfl) ?_
              refine ops_nil ?_
              refine at_then ?_
              refine run_ret ?_
              refine at_then_ret ?_
              refine at_then_ret ?_
              replace HM := (HM.front 0 rfl rfl).drop
              have hR := Option.some.inj ho3526
              subst hR
              have hT := thn_inl H
              have hR := Option.some.inj hT
              subst hR
              exact at_ret1 rfl rfl ⟨_, rfl, rfl, HM⟩
            · replace ho3526 := cond_f hb3532 ho3526
              refine run_skip ?_
              refine at_then ?_
              obtain ⟨e3533, ho3526⟩ := chk_some ho3526
              refine run_region rfl ?_
              refine ops_ex rfl (guard_none rfl) rfl rfl (ex_move rfl rfl) ?_
              refine ops_ex rfl (guard_none rfl) rfl rfl (ex_move rfl rfl) ?_
              have hc3534 : CellsAt _ (sb p0) (so p0 + (t3528).toNat * 3) [(.int .i64 ((gt x0 t3528).fId)), (.int .i64 ((gt x0 t3528).fPrev)), (.int .i64 ((gt x0 t3528).fHeight))] := rd_plain hp0 e3533
              refine ops_ex rfl (guard_none rfl) rfl rfl (ex_indexAddr (d := kNode) rfl rfl rfl Try.underlying57 tsz113 hp0 (idx_lo e3533) (idx_hi e3533)) ?_
              refine ops_ex rfl (guard_none rfl) rfl rfl (ex_fieldAddr (off' := so p0 + (t3528).toNat * 3 + 2) rfl rfl Try.underlying113 rfl tsz2 rfl) ?_
              refine ops_ex rfl (guard_none rfl) rfl rfl (ex_load1 rfl rfl Try.underlying2 rfl ((HM.at_ hc3534) 2 _ rfl)) ?_
              refine ops_ex rfl (guard_none rfl) rfl rfl (ex_assign rfl rfl) ?_
              refine ops_nil ?_
              exact at_mid (ρ' := [(3, .pointer (some ⟨b3484, 0, none⟩)), (5, .int .i64 ((gt x0 t3528).fHeight))]) ⟨_, (Option.some.inj ho3526), rfl, HM⟩ (Sub.cons rfl (Sub.cons rfl Sub.nil))
          · replace ho3526 := cond_f hb3527 ho3526
            refine run_skip ?_
            exact at_mid (ρ' := [(3, .pointer (some ⟨b3484, 0, none⟩)), (5, .int .i64 0)]) ⟨_, (Option.some.inj ho3526), rfl, HM⟩ (Sub.cons rfl (Sub.cons rfl Sub.nil))
        · rintro _ w3535 ⟨a3524, rfl, rfl, HM⟩
          replace H := (thn_inr H)
          refine run_seq ?_
          refine run_seq ?_
          refine run_region rfl ?_
          refine ops_ex rfl (guard_none rfl) rfl rfl (ex_fieldAddr (off' := 2) rfl rfl Try.underlying113 rfl tsz2 rfl) ?_
          refine ops_ex rfl (guard_none rfl) rfl rfl (ex_load1 rfl rfl Try.underlying2 rfl ((HM.box_at 0 rfl) 2 _ rfl)) ?_
          refine ops_ex rfl (guard_none rfl) rfl rfl (ex_move rfl rfl) ?_
          refine ops_ex rfl (guard_none rfl) rfl rfl (ex_add rfl rfl rfl) ?_
          refine ops_ex rfl (guard_none rfl) rfl rfl (ex_neq rfl rfl rfl) ?_
          refine ops_nil ?_
          refine at_then ?_
          refine run_cond (b := (x1.fHeight != (wrap64 (a3524 + 1)))) rfl (fun hb3536 => ?_) (fun hb3536 => ?_)
          · replace H := cond_t hb3536 H
            refine run_seq ?_
            refine run_region rfl ?_
            refine ops_ex rfl (guard_none rfl) rfl rfl (ex_assign rfl rfl) ?_
            refine ops_nil ?_
            refine at_then ?_
            refine run_ret ?_
            refine at_then_ret ?_
            replace HM := (HM.front 0 rfl rfl).drop
            have hR := Option.some.inj H
            subst hR
            exact at_ret1 rfl rfl ⟨_, rfl, rfl, HM⟩
          · replace H := cond_f hb3536 H
            refine run_skip ?_
            refine at_then ?_
            refine run_seq ?_
            refine run_region rfl ?_
            refine ops_ex rfl (guard_none rfl) rfl rfl (ex_assign rfl rfl) ?_
            refine ops_nil ?_
            refine at_then ?_
            refine run_ret ?_
            replace HM := (HM.front 0 rfl rfl).drop
            have hR := Option.some.inj H
            subst hR
            exact at_ret1 rfl rfl ⟨_, rfl, rfl, HM⟩

def spec_l9Fault.l0 (x0 : List Node) : Nat → Int → Option (Int ⊕ Unit)
  | 0, _ => none
  | k + 1, a3608 => (bif (decide (a3608 < (x0.length : Int))) then (chk (cutOk a3608 x0.length) (chk (idxOk a3608 x0.length) ((spec_l9Node.f k (x0.take (a3608).toNat) (gt x0 a3608)).bind fun t3628 => (bif (t3628 != 0) then some (.inl t3628) else spec_l9Fault.l0 x0 k (wrap64 (a3608 + 1)))))) else some (.inr ()))
theorem spec_l9Fault.l0_z (x0 : List Node) (a3608 : Int) : spec_l9Fault.l0 x0 0 a3608 = none := rfl
theorem spec_l9Fault.l0_s (x0 : List Node) (k : Nat) (a3608 : Int) : spec_l9Fault.l0 x0 (k + 1) a3608 = (bif (decide (a3608 < (x0.length : Int))) then (chk (cutOk a3608 x0.length) (chk (idxOk a3608 x0.length) ((spec_l9Node.f k (x0.take (a3608).toNat) (gt x0 a3608)).bind fun t3628 => (bif (t3628 != 0) then some (.inl t3628) else spec_l9Fault.l0 x0 k (wrap64 (a3608 + 1)))))) else some (.inr ())) := rfl
def spec_l9Fault.f (k : Nat) (x0 : List Node) : Option Int := (bif (decide (60 < (x0.length : Int))) then some 2 else ((spec_l9Fault.l0 x0 k 0).bind fun o3596 => thn o3596 (fun r => some r) (fun _ => some 0)))
theorem spec_l9Fault.calls {k : Nat} {x0 : List Node} {p0 : Value} {w : World} (hp0 : RdS kNode w p0 x0) {r : Int} (H : spec_l9Fault.f k x0 = some r) :
    Calls Try.prog 81 ([p0] : List Value).toArray w (fun e w_ => ∃ v, e = .returned v ∧ v = (.int .i64 r) ∧ Mem w [] w_ []) := by
  have HM := Mem.start w
  refine calls_run (N := 25) Try.func81 rfl rfl rfl rfl ?_
  unfold spec_l9Fault.f at H
  refine run_seq ?_
  refine run_region rfl ?_
  refine ops_ex rfl (guard_none rfl) rfl rfl (ex_assign rfl rfl) ?_
  refine ops_nil ?_
  refine at_then ?_
  refine run_seq ?_
  refine run_seq ?_
  refine run_region rfl ?_
  refine ops_ex rfl (guard_none rfl) rfl rfl (ex_move rfl rfl) ?_
  refine ops_ex rfl (guard_none rfl) rfl rfl (ex_len (d := kNode) (xs := x0) rfl rfl Try.underlying57 hp0) ?_
  refine ops_ex rfl (guard_none rfl) rfl rfl (ex_gtr rfl rfl rfl) ?_
  refine ops_nil ?_
  refine at_then ?_
  refine run_cond (b := (decide (60 < (x0.length : Int)))) rfl (fun hb3564 => ?_) (fun hb3564 => ?_)
  · replace H := cond_t hb3564 H
    refine run_seq ?_
    refine run_region rfl ?_
    refine ops_ex rfl (guard_none rfl) rfl rfl (ex_assign rfl rfl) ?_
    refine ops_nil ?_
    refine at_then ?_
    refine run_ret ?_
    refine at_then_ret ?_
    have hR := Option.some.inj H
    subst hR
    exact at_ret1 rfl rfl ⟨_, rfl, rfl, HM⟩
  · replace H := cond_f hb3564 H
    refine run_skip ?_
    refine at_then ?_
    obtain ⟨o3596, ho3597, H⟩ := bind_some H
    refine run_mid (fun ρ_ w_ => Sum.inr () = o3596 ∧ ρ_ = [] ∧ Mem w [] w_ []) ?_ ?_
    · skip
      refine run_seq ?_
      refine run_region rfl ?_
      refine ops_ex rfl (guard_none rfl) rfl rfl (ex_assign rfl rfl) ?_
      refine ops_nil ?_
      refine at_then ?_
      refine run_block ?_
      refine run_loop (fun k_ ρ_ w_ => ∃ a3608 : Int, spec_l9Fault.l0 x0 k_ a3608 = some o3596 ∧ ρ_ = [(0, p0), (3, .int .i64 a3608)] ∧ Mem w [] w_ []) k (ρ1 := [(0, p0), (3, .int .i64 0)]) ⟨_, ho3597, rfl, HM⟩ (Sub.cons rfl (Sub.cons rfl Sub.nil)) ?_
      clear HM ho3597
      rintro k3619 _ w3620 ⟨a3608, ho3597, rfl, HM⟩
      obtain _ | k3619 := k3619
      · exact nomatch ((spec_l9Fault.l0_z x0 a3608).symm.trans ho3597)
      replace ho3597 := (spec_l9Fault.l0_s x0 k3619 a3608).symm.trans ho3597
      refine run_seq ?_
      refine run_seq ?_
      refine run_region rfl ?_
      refine ops_ex rfl (guard_none rfl) rfl rfl (ex_move rfl rfl) ?_
      refine ops_ex rfl (guard_none rfl) rfl rfl (ex_move rfl rfl) ?_
      refine ops_ex rfl (guard_none rfl) rfl rfl (ex_len (d := kNode) (xs := x0) rfl rfl Try.underlying57 hp0) ?_
      refine ops_ex rfl (guard_none rfl) rfl rfl (ex_lss rfl rfl rfl) ?_
      refine ops_nil ?_
      refine at_then ?_
      refine run_cond (b := (decide (a3608 < (x0.length : Int)))) rfl (fun hb3621 => ?_) (fun hb3621 => ?_)
      · replace ho3597 := cond_t hb3621 ho3597
        refine run_skip ?_
        refine at_then ?_
        refine run_seq ?_
        refine run_block ?_
        refine run_seq ?_
        obtain ⟨e3622, ho3597⟩ := chk_some ho3597
        obtain ⟨e3626, ho3597⟩ := chk_some ho3597
        obtain ⟨t3628, h3629, ho3597⟩ := bind_some ho3597
        refine run_draw (fun w_ => Mem w [] w_ []) mixed rfl rfl ?_
        replace HM := HM.grow (fr_drew _)
        have hS := Mem.suf (M := []) HM
        refine drw_take (i := 0) (l' := #[true, false, false, false, false, false, false, false, false]) rfl (guard_none rfl) rfl rfl (by kernel_rfl) (fun w_ hS_ => (ex_move rfl rfl)) hS ?_
        refine drw_take (i := 1) (l' := #[true, true, false, false, false, false, false, false, false]) rfl (guard_none rfl) rfl rfl (by kernel_rfl) (fun w_ hS_ => (ex_move rfl rfl)) hS ?_
        refine drw_takeE (i := 2) (l' := #[true, true, true, false, false, false, false, false, false]) rfl (guard_none rfl) rfl rfl (by kernel_rfl) (ex_cutH kNode rfl rfl rfl Try.underlying57 tsz113 hp0 e3622) hS ?_
        intro u3623 hr3625
        refine drw_take (i := 3) (l' := #[true, true, true, true, false, false, false, false, false]) rfl (guard_none rfl) rfl rfl (by kernel_rfl) (fun w_ hS_ => (ex_move rfl rfl)) hS ?_
        refine drw_take (i := 4) (l' := #[true, true, true, true, true, false, false, false, false]) rfl (guard_none rfl) rfl rfl (by kernel_rfl) (fun w_ hS_ => (ex_move rfl rfl)) hS ?_
        have hc3627 : CellsAt _ (sb p0) (so p0 + (a3608).toNat * 3) [(.int .i64 ((gt x0 a3608).fId)), (.int .i64 ((gt x0 a3608).fPrev)), (.int .i64 ((gt x0 a3608).fHeight))] := rd_plain hp0 e3626
        refine drw_take (i := 5) (l' := #[true, true, true, true, true, true, false, false, false]) rfl (guard_none rfl) rfl rfl (by kernel_rfl) (fun w_ hS_ => (ex_indexAddr (d := kNode) rfl rfl rfl Try.underlying57 tsz113 hp0 (idx_lo e3626) (idx_hi e3626))) hS ?_
        refine drw_take (i := 6) (l' := #[true, true, true, true, true, true, true, false, false]) rfl (guard_none rfl) rfl rfl (by kernel_rfl) (fun w_ hS_ => (ex_loadN (cs := [(.int .i64 ((gt x0 a3608).fId)), (.int .i64 ((gt x0 a3608).fPrev)), (.int .i64 ((gt x0 a3608).fHeight))]) rfl rfl Try.underlying113 rfl tsz113 rfl ((hS_.at_ hc3627).sub 0 3 rfl))) hS ?_
        refine drw_one (i := 7) (l' := #[true, true, true, true, true, true, true, true, false]) rfl (guard_none rfl) rfl rfl (by kernel_rfl) (does_callk rfl callok112 rfl (spec_l9Node.calls (x0 := x0.take (a3608).toNat) (x1 := (gt x0 a3608)) (HM.rd hr3625) h3629)) ?_
        rintro _ w3630 ⟨rfl, hn⟩
        replace HM : Mem w [] w3630 [] := HM.call hn
        refine ⟨Mem.suf (M := []) HM, ?_⟩
        have hS := Mem.suf (M := []) HM
        refine drw_take (i := 8) (l' := #[true, true, true, true, true, true, true, true, true]) rfl (guard_none rfl) rfl rfl (by kernel_rfl) (fun w_ hS_ => (ex_assign rfl rfl)) hS ?_
        refine drw_done (by kernel_rfl) ?_
        refine at_then ?_
        refine run_seq ?_
        refine run_region rfl ?_
        refine ops_ex rfl (guard_none rfl) rfl rfl (ex_move rfl rfl) ?_
        refine ops_ex rfl (guard_none rfl) rfl rfl (ex_neq rfl rfl rfl) ?_
        refine ops_nil ?_
        refine at_then ?_
        refine run_cond (b := (t3628 != 0)) rfl (fun hb3631 => ?_) (fun hb3631 => ?_)
        · replace ho3597 := cond_t hb3631 ho3597
          refine run_seq ?_
          refine run_region rfl ?_
          refine ops_ex rfl (guard_none rfl) rfl rfl (ex_move rfl rfl) ?_
          refine ops_ex rfl (guard_none rfl) rfl rfl (ex_assign rfl rfl) ?_
          refine ops_nil ?_
          refine at_then ?_
          refine run_ret ?_
          refine at_block_ret ?_
          refine at_then_ret ?_
          refine at_then_ret ?_
          refine at_block_ret ?_
          refine at_then_ret ?_
          have hR := Option.some.inj ho3597
          subst hR
          have hT := thn_inl H
          have hR := Option.some.inj hT
          subst hR
          exact at_ret1 rfl rfl ⟨_, rfl, rfl, HM⟩
        · replace ho3597 := cond_f hb3631 ho3597
          refine run_skip ?_
          refine at_block ?_
          refine at_then ?_
          refine run_region rfl ?_
          refine ops_ex rfl (guard_none rfl) rfl rfl (ex_move rfl rfl) ?_
          refine ops_ex rfl (guard_none rfl) rfl rfl (ex_add rfl rfl rfl) ?_
          refine ops_ex rfl (guard_none rfl) rfl rfl (ex_assign rfl rfl) ?_
          refine ops_nil ?_
          exact at_again k3619 (ρ1 := [(0, p0), (3, .int .i64 (wrap64 (a3608 + 1)))]) (Nat.lt_succ_self _) ⟨_, ho3597, rfl, HM⟩ (Sub.cons rfl (Sub.cons rfl Sub.nil))
      · replace ho3597 := cond_f hb3621 ho3597
        refine run_exit ?_
        refine at_then_exit ?_
        refine at_then_exit ?_
        refine at_block_exit ?_
        exact at_mid (ρ' := []) ⟨(Option.some.inj ho3597), rfl, HM⟩ Sub.nil
    · rintro _ w3632 ⟨rfl, rfl, HM⟩
      replace H := (thn_inr H)
      refine run_seq ?_
      refine run_region rfl ?_
      refine ops_ex rfl (guard_none rfl) rfl rfl (ex_assign rfl rfl) ?_
      refine ops_nil ?_
      refine at_then ?_
      refine run_ret ?_
      have hR := Option.some.inj H
      subst hR
      exact at_ret1 rfl rfl ⟨_, rfl, rfl, HM⟩
end Go.Proofs.Ytkofpnbacgccnaa.Zk
