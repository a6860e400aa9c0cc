/- What functions of the program compute, each as a plain function, and that they do. Conditions: as each theorem states them. -/
import Derived.Test.YtigojhglkilodaaCoinAtZkF5
namespace Go.Proofs.Ytigojhglkilodaa.Zk
open Go Go.RowKit Go.IntWalk Go.Proofs
set_option linter.unusedVariables false
set_option linter.unusedSimpArgs false
set_option maxRecDepth 100000
set_option maxHeartbeats 4000000
def laws_heldCoinsResult.f (k : Nat) (x0 : CoinsResult) (x1 : Int) : Option Int := ((laws_heldCoinS.f k x0.fCoins x1).bind fun t4202 => (bif (decide (t4202 < 0)) then some (-1) else some t4202))
theorem laws_heldCoinsResult.calls {k : Nat} {x0 : CoinsResult} {x1 : Int} {p0_0 : Value} {w : World} (hp0_0 : RdS kCoin w p0_0 x0.fCoins) {r : Int} (H : laws_heldCoinsResult.f k x0 x1 = some r) :
    Calls Try.prog 30 ([.agg #[(.int .i64 x0.fCode), p0_0], .int .i64 x1] : List Value).toArray w (fun e w_ => ∃ v, e = .returned v ∧ v = (.int .i64 r) ∧ Mem w [] w_ []) := by
  have HM := Mem.start w
  refine calls_run (N := 12) Try.func30 rfl rfl rfl rfl ?_
  unfold laws_heldCoinsResult.f at H
  refine run_seq ?_
  refine run_region rfl ?_
  refine ops_does rfl (guard_none rfl) rfl rfl (does_box (cs := [.int .i64 x0.fCode, p0_0]) rfl rfl rfl HM) ?_
  rintro _ w4201 ⟨b4198, rfl, HM⟩
  refine ops_ex rfl (guard_none rfl) rfl rfl (ex_assign rfl rfl) ?_
  refine ops_nil ?_
  refine at_then ?_
  refine run_seq ?_
  obtain ⟨t4202, h4203, H⟩ := bind_some H
  refine run_region rfl ?_
  refine ops_ex rfl (guard_none rfl) rfl rfl (ex_fieldAddr (off' := 1) rfl rfl Try.underlying52 rfl tsz44 rfl) ?_
  refine ops_ex rfl (guard_none rfl) rfl rfl (ex_load1 rfl rfl Try.underlying44 rfl ((HM.box_at 0 rfl) 1 _ rfl)) ?_
  refine ops_ex rfl (guard_none rfl) rfl rfl (ex_move rfl rfl) ?_
  refine ops_does rfl (guard_none rfl) rfl rfl (does_callk rfl callok85 rfl (laws_heldCoinS.calls (x0 := x0.fCoins) (x1 := x1) (HM.rd hp0_0) h4203)) ?_
  rintro _ w4204 ⟨rfl, hn⟩
  replace HM : Mem w [] w4204 [box b4198 52 [.int .i64 x0.fCode, p0_0]] := HM.call hn
  refine ops_ex rfl (guard_none rfl) rfl rfl (ex_assign rfl rfl) ?_
  refine ops_nil ?_
  refine at_then ?_
  refine run_seq ?_
  refine run_seq ?_
  refine run_region rfl ?_
  refine ops_ex rfl (guard_none rfl) rfl rfl (ex_move rfl rfl) ?_
  refine ops_ex rfl (guard_none rfl) rfl rfl (ex_lss rfl rfl rfl) ?_
  refine ops_nil ?_
  refine at_then ?_
  refine run_cond (b := (decide (t4202 < 0))) rfl (fun hb4205 => ?_) (fun hb4205 => ?_)
  · replace H := cond_t hb4205 H
    refine run_seq ?_
    refine run_region rfl ?_
    refine ops_ex rfl (guard_none rfl) rfl rfl (ex_assign rfl rfl) ?_
    refine ops_nil ?_
    refine at_then ?_
    refine run_ret ?_
    refine at_then_ret ?_
    replace HM := (HM.front 0 rfl rfl).drop
    have hR := Option.some.inj H
    subst hR
    exact at_ret1 rfl rfl ⟨_, rfl, rfl, HM⟩
  · replace H := cond_f hb4205 H
    refine run_skip ?_
    refine at_then ?_
    refine run_seq ?_
    refine run_region rfl ?_
    refine ops_ex rfl (guard_none rfl) rfl rfl (ex_move rfl rfl) ?_
    refine ops_ex rfl (guard_none rfl) rfl rfl (ex_assign rfl rfl) ?_
    refine ops_nil ?_
    refine at_then ?_
    refine run_ret ?_
    replace HM := (HM.front 0 rfl rfl).drop
    have hR := Option.some.inj H
    subst hR
    exact at_ret1 rfl rfl ⟨_, rfl, rfl, HM⟩

def laws_FnExactCoinAt.f (k : Nat) (x0 : List Coin) (x1 : Ref) : Option Bool := ((laws_szCoinS.f k x0 1048576).bind fun t4240 => (bif (decide (t4240 < 0)) then some true else ((laws_toCoinS.f k x0).bind fun t4245 => ((laws_toRef.f k x1).bind fun t4249 => ((spec_CoinAt.f k t4245 t4249).bind fun t4251 => ((laws_toCoinS.f k x0).bind fun t4276 => ((laws_toRef.f k x1).bind fun t4281 => ((impl_CoinAt.f k t4276 t4281).bind fun t4283 => ((laws_eqCoinsResult.f k t4283 t4251).bind fun t4297 => (bif !t4297 then some false else ((laws_toCoinS.f k x0).bind fun t4308 => ((laws_eqCoinS.f k t4276 t4308).bind fun t4312 => (bif !t4312 then some false else ((laws_markCoinS.f k t4276 1).bind fun t4317 => ((bif (!(decide (t4317.1 < 0))) then laws_eqCoinsResult.f k t4283 t4251 else some default).bind fun t4329 => (bif ((decide (t4317.1 < 0)) || (!t4329)) then some false else ((laws_markCoinsResult.f k t4283 1).bind fun t4336 => ((laws_heldCoinsResult.f k (⟨t4283.fCode, t4336.2⟩ : CoinsResult) 1).bind fun t4345 => (bif (decide (t4345 < 0)) then some false else (bif (t4345 != t4336.1) then some false else ((laws_toCoinS.f k x0).bind fun t4352 => ((laws_toRef.f k x1).bind fun t4356 => ((impl_CoinAt.f k t4352 t4356).bind fun t4358 => ((laws_eqCoinsResult.f k t4358 t4251).bind fun t4386 => (bif !t4386 then some false else ((laws_heldCoinsResult.f k (⟨t4283.fCode, t4336.2⟩ : CoinsResult) 1).bind fun t4390 => (bif (decide (t4390 < 0)) then some false else (bif (t4390 != t4336.1) then some false else some true))))))))))))))))))))))))))))
theorem laws_FnExactCoinAt.calls {k : Nat} {x0 : List Coin} {x1 : Ref} {p0 : Value} {w : World} (hp0 : RdS kCoin w p0 x0) {r : Bool} (H : laws_FnExactCoinAt.f k x0 x1 = some r) :
    Calls Try.prog 5 ([p0, .agg #[(.int .i64 x1.fTx), (.int .i64 x1.fAt)]] : List Value).toArray w (fun e w_ => ∃ v, e = .returned v ∧ v = (.bool r) ∧ Mem w [] w_ []) := by
  have HM := Mem.start w
  refine calls_run (N := 77) Try.func5 rfl rfl rfl rfl ?_
  unfold laws_FnExactCoinAt.f at H
  refine run_seq ?_
  refine run_region rfl ?_
  refine ops_does rfl (guard_none rfl) rfl rfl (does_box (cs := [.int .i64 x1.fTx, .int .i64 x1.fAt]) rfl rfl rfl HM) ?_
  rintro _ w4239 ⟨b4236, rfl, HM⟩
  refine ops_ex rfl (guard_none rfl) rfl rfl (ex_assign rfl rfl) ?_
  refine ops_nil ?_
  refine at_then ?_
  refine run_seq ?_
  refine run_region rfl ?_
  refine ops_ex rfl (guard_none rfl) rfl rfl (ex_assign rfl rfl) ?_
  refine ops_nil ?_
  refine at_then ?_
  refine run_seq ?_
  obtain ⟨t4240, h4241, H⟩ := bind_some H
  refine run_region rfl ?_
  refine ops_ex rfl (guard_none rfl) rfl rfl (ex_move rfl rfl) ?_
  refine ops_ex rfl (guard_none rfl) rfl rfl (ex_move rfl rfl) ?_
  refine ops_does rfl (guard_none rfl) rfl rfl (does_callk rfl callok18 rfl (laws_szCoinS.calls (x0 := x0) (x1 := 1048576) (HM.rd hp0) h4241)) ?_
  rintro _ w4242 ⟨rfl, hn⟩
  replace HM : Mem w [] w4242 [box b4236 50 [.int .i64 x1.fTx, .int .i64 x1.fAt]] := HM.call hn
  refine ops_ex rfl (guard_none rfl) rfl rfl (ex_assign rfl rfl) ?_
  refine ops_nil ?_
  refine at_then ?_
  refine run_seq ?_
  refine run_seq ?_
  refine run_region rfl ?_
  refine ops_ex rfl (guard_none rfl) rfl rfl (ex_move rfl rfl) ?_
  refine ops_ex rfl (guard_none rfl) rfl rfl (ex_lss rfl rfl rfl) ?_
  refine ops_nil ?_
  refine at_then ?_
  refine run_cond (b := (decide (t4240 < 0))) rfl (fun hb4244 => ?_) (fun hb4244 => ?_)
  · replace H := cond_t hb4244 H
    refine run_seq ?_
    refine run_region rfl ?_
    refine ops_ex rfl (guard_none rfl) rfl rfl (ex_assign rfl rfl) ?_
    refine ops_nil ?_
    refine at_then ?_
    refine run_ret ?_
    refine at_then_ret ?_
    replace HM := (HM.front 0 rfl rfl).drop
    have hR := Option.some.inj H
    subst hR
    exact at_ret1 rfl rfl ⟨_, rfl, rfl, HM⟩
  · replace H := cond_f hb4244 H
    refine run_skip ?_
    refine at_then ?_
    refine run_seq ?_
    obtain ⟨t4245, h4246, H⟩ := bind_some H
    obtain ⟨t4249, h4250, H⟩ := bind_some H
    obtain ⟨t4251, h4252, H⟩ := bind_some H
    refine run_meet (fun ρ_ w_ => ∃ u4253 : Value, ∃ b4255 : Nat, ρ_ = [(0, p0), (3, .pointer (some ⟨b4236, 0, none⟩)), (6, .pointer (some ⟨b4255, 0, none⟩))] ∧ Mem w [] w_ [box b4236 50 [.int .i64 x1.fTx, .int .i64 x1.fAt], box b4255 52 [.int .i64 t4251.fCode, u4253], own kCoin 123 u4253 t4251.fCoins]) ?_ ?_
    · skip
      refine run_draw (fun w_ => Mem w [] w_ [box b4236 50 [.int .i64 x1.fTx, .int .i64 x1.fAt]]) mixed rfl (l := #[false, false, false, false, false, false, false]) rfl ?_
      replace HM := HM.grow (fr_drew _)
      have hS := Mem.suf (M := []) HM
      refine drw_take (i := 0) (l' := #[true, false, false, false, false, false, false]) rfl (guard_none rfl) rfl rfl (by kernel_rfl) (fun w_ hS_ => (ex_move rfl rfl)) hS ?_
      refine drw_take (i := 2) (l' := #[true, false, true, false, false, false, false]) rfl (guard_none rfl) rfl rfl (by kernel_rfl) (fun w_ hS_ => (ex_loadN (cs := [(.int .i64 x1.fTx), (.int .i64 x1.fAt)]) rfl rfl Try.underlying50 rfl tsz50 rfl ((hS_.box_at 0 rfl).sub 0 2 rfl))) hS ?_
      refine drw_any [1, 5] (by kernel_rfl) rfl (.cons ?_ (.cons ?_ .nil))
      · skip
        refine br_does (l' := #[true, true, true, false, false, false, false]) rfl (guard_none rfl) rfl rfl (by kernel_rfl) (does_callk rfl callok20 rfl (laws_toCoinS.calls (x0 := x0) (HM.rd hp0) h4246)) ?_
        rintro u4247 w4258 ⟨_, rfl, hn⟩
        replace HM : Mem w [] w4258 [own kCoin 123 u4247 t4245, box b4236 50 [.int .i64 x1.fTx, .int .i64 x1.fAt]] := HM.call hn
        refine ⟨Mem.suf (M := [own kCoin 123 u4247 t4245]) HM, ?_⟩
        have hS := Mem.suf (M := [own kCoin 123 u4247 t4245]) HM
        refine drw_any [3, 5] (by kernel_rfl) rfl (.cons ?_ (.cons ?_ .nil))
        · skip
          refine br_does (l' := #[true, true, true, true, false, false, false]) rfl (guard_none rfl) rfl rfl (by kernel_rfl) (does_callk rfl callok25 rfl (laws_toRef.calls (x0 := x1) h4250)) ?_
          rintro _ w4259 ⟨rfl, hn⟩
          replace HM : Mem w [] w4259 [own kCoin 123 u4247 t4245, box b4236 50 [.int .i64 x1.fTx, .int .i64 x1.fAt]] := HM.call hn
          refine ⟨Mem.suf (M := [own kCoin 123 u4247 t4245]) HM, ?_⟩
          have hS := Mem.suf (M := [own kCoin 123 u4247 t4245]) HM
          refine drw_any [4, 5] (by kernel_rfl) rfl (.cons ?_ (.cons ?_ .nil))
          · skip
            refine br_does (l' := #[true, true, true, true, true, false, false]) rfl (guard_none rfl) rfl rfl (by kernel_rfl) (does_callk rfl callok24 rfl (spec_CoinAt.calls (x0 := t4245) (x1 := t4249) (HM.own_rd 0 rfl) h4252)) ?_
            rintro _ w4260 ⟨u4253, rfl, hn⟩
            replace HM : Mem w [] w4260 [own kCoin 123 u4253 t4251.fCoins, own kCoin 123 u4247 t4245, box b4236 50 [.int .i64 x1.fTx, .int .i64 x1.fAt]] := HM.call hn
            refine ⟨Mem.suf (M := [own kCoin 123 u4253 t4251.fCoins, own kCoin 123 u4247 t4245]) HM, ?_⟩
            have hS := Mem.suf (M := [own kCoin 123 u4253 t4251.fCoins, own kCoin 123 u4247 t4245]) HM
            refine drw_any [5] (by kernel_rfl) rfl (.cons ?_ .nil)
            refine br_does (l' := #[true, true, true, true, true, true, false]) rfl (guard_none rfl) rfl rfl (by kernel_rfl) (does_alloc (cs := [.int .i64 0, .slice none 0 0]) rfl tz52 rfl HM) ?_
            rintro _ w4261 ⟨b4255, rfl, HM⟩
            refine ⟨Mem.suf (M := [box b4255 52 [.int .i64 0, .slice none 0 0], own kCoin 123 u4253 t4251.fCoins, own kCoin 123 u4247 t4245]) HM, ?_⟩
            have hS := Mem.suf (M := [box b4255 52 [.int .i64 0, .slice none 0 0], own kCoin 123 u4253 t4251.fCoins, own kCoin 123 u4247 t4245]) HM
            refine drw_any [6] (by kernel_rfl) rfl (.cons ?_ .nil)
            refine br_doesS (l' := #[true, true, true, true, true, true, true]) rfl (guard_none rfl) rfl (by kernel_rfl) (does_store (vs := [.int .i64 t4251.fCode, u4253]) (cs' := [.int .i64 t4251.fCode, u4253]) rfl rfl rfl rfl tsz52 (Ones.int (Ones.rd (HM.own_rd 1 rfl) Ones.nil)) rfl rfl HM) ?_
            rintro w4262 HM
            refine ⟨Mem.suf (M := [box b4255 52 [.int .i64 t4251.fCode, u4253], own kCoin 123 u4253 t4251.fCoins, own kCoin 123 u4247 t4245]) HM, ?_⟩
            have hS := Mem.suf (M := [box b4255 52 [.int .i64 t4251.fCode, u4253], own kCoin 123 u4253 t4251.fCoins, own kCoin 123 u4247 t4245]) HM
            refine drw_done (by kernel_rfl) ?_
            replace HM := (HM.front 2 rfl rfl).drop
            replace HM := HM.front 1 rfl rfl
            replace HM := HM.front 1 rfl rfl
            replace HM := HM.front 2 rfl rfl
            exact at_meet [(0, p0), (3, .pointer (some ⟨b4236, 0, none⟩)), (6, .pointer (some ⟨b4255, 0, none⟩))] ⟨_, _, rfl, HM⟩ (Sub.cons rfl (Sub.cons rfl (Sub.cons rfl Sub.nil)))
          · skip
            refine br_does (l' := #[true, true, true, true, false, true, false]) rfl (guard_none rfl) rfl rfl (by kernel_rfl) (does_alloc (cs := [.int .i64 0, .slice none 0 0]) rfl tz52 rfl HM) ?_
            rintro _ w4263 ⟨b4255, rfl, HM⟩
            refine ⟨Mem.suf (M := [box b4255 52 [.int .i64 0, .slice none 0 0], own kCoin 123 u4247 t4245]) HM, ?_⟩
            have hS := Mem.suf (M := [box b4255 52 [.int .i64 0, .slice none 0 0], own kCoin 123 u4247 t4245]) HM
            refine drw_any [4] (by kernel_rfl) rfl (.cons ?_ .nil)
            refine br_does (l' := #[true, true, true, true, true, true, false]) rfl (guard_none rfl) rfl rfl (by kernel_rfl) (does_callk rfl callok24 rfl (spec_CoinAt.calls (x0 := t4245) (x1 := t4249) (HM.own_rd 1 rfl) h4252)) ?_
            rintro _ w4264 ⟨u4253, rfl, hn⟩
            replace HM : Mem w [] w4264 [own kCoin 123 u4253 t4251.fCoins, box b4255 52 [.int .i64 0, .slice none 0 0], own kCoin 123 u4247 t4245, box b4236 50 [.int .i64 x1.fTx, .int .i64 x1.fAt]] := HM.call hn
            refine ⟨Mem.suf (M := [own kCoin 123 u4253 t4251.fCoins, box b4255 52 [.int .i64 0, .slice none 0 0], own kCoin 123 u4247 t4245]) HM, ?_⟩
            have hS := Mem.suf (M := [own kCoin 123 u4253 t4251.fCoins, box b4255 52 [.int .i64 0, .slice none 0 0], own kCoin 123 u4247 t4245]) HM
            replace HM := HM.front 1 rfl rfl
            refine drw_any [6] (by kernel_rfl) rfl (.cons ?_ .nil)
            refine br_doesS (l' := #[true, true, true, true, true, true, true]) rfl (guard_none rfl) rfl (by kernel_rfl) (does_store (vs := [.int .i64 t4251.fCode, u4253]) (cs' := [.int .i64 t4251.fCode, u4253]) rfl rfl rfl rfl tsz52 (Ones.int (Ones.rd (HM.own_rd 1 rfl) Ones.nil)) rfl rfl HM) ?_
            rintro w4265 HM
            refine ⟨Mem.suf (M := [box b4255 52 [.int .i64 t4251.fCode, u4253], own kCoin 123 u4253 t4251.fCoins, own kCoin 123 u4247 t4245]) HM, ?_⟩
            have hS := Mem.suf (M := [box b4255 52 [.int .i64 t4251.fCode, u4253], own kCoin 123 u4253 t4251.fCoins, own kCoin 123 u4247 t4245]) HM
            refine drw_done (by kernel_rfl) ?_
            replace HM := (HM.front 2 rfl rfl).drop
            replace HM := HM.front 1 rfl rfl
            replace HM := HM.front 1 rfl rfl
            replace HM := HM.front 2 rfl rfl
            exact at_meet [(0, p0), (3, .pointer (some ⟨b4236, 0, none⟩)), (6, .pointer (some ⟨b4255, 0, none⟩))] ⟨_, _, rfl, HM⟩ (Sub.cons rfl (Sub.cons rfl (Sub.cons rfl Sub.nil)))
        · skip
          refine br_does (l' := #[true, true, true, false, false, true, false]) rfl (guard_none rfl) rfl rfl (by kernel_rfl) (does_alloc (cs := [.int .i64 0, .slice none 0 0]) rfl tz52 rfl HM) ?_
          rintro _ w4266 ⟨b4255, rfl, HM⟩
          refine ⟨Mem.suf (M := [box b4255 52 [.int .i64 0, .slice none 0 0], own kCoin 123 u4247 t4245]) HM, ?_⟩
          have hS := Mem.suf (M := [box b4255 52 [.int .i64 0, .slice none 0 0], own kCoin 123 u4247 t4245]) HM
          refine drw_any [3] (by kernel_rfl) rfl (.cons ?_ .nil)
          refine br_does (l' := #[true, true, true, true, false, true, false]) rfl (guard_none rfl) rfl rfl (by kernel_rfl) (does_callk rfl callok25 rfl (laws_toRef.calls (x0 := x1) h4250)) ?_
          rintro _ w4267 ⟨rfl, hn⟩
          replace HM : Mem w [] w4267 [box b4255 52 [.int .i64 0, .slice none 0 0], own kCoin 123 u4247 t4245, box b4236 50 [.int .i64 x1.fTx, .int .i64 x1.fAt]] := HM.call hn
          refine ⟨Mem.suf (M := [box b4255 52 [.int .i64 0, .slice none 0 0], own kCoin 123 u4247 t4245]) HM, ?_⟩
          have hS := Mem.suf (M := [box b4255 52 [.int .i64 0, .slice none 0 0], own kCoin 123 u4247 t4245]) HM
          refine drw_any [4] (by kernel_rfl) rfl (.cons ?_ .nil)
          refine br_does (l' := #[true, true, true, true, true, true, false]) rfl (guard_none rfl) rfl rfl (by kernel_rfl) (does_callk rfl callok24 rfl (spec_CoinAt.calls (x0 := t4245) (x1 := t4249) (HM.own_rd 1 rfl) h4252)) ?_
          rintro _ w4268 ⟨u4253, rfl, hn⟩
          replace HM : Mem w [] w4268 [own kCoin 123 u4253 t4251.fCoins, box b4255 52 [.int .i64 0, .slice none 0 0], own kCoin 123 u4247 t4245, box b4236 50 [.int .i64 x1.fTx, .int .i64 x1.fAt]] := HM.call hn
          refine ⟨Mem.suf (M := [own kCoin 123 u4253 t4251.fCoins, box b4255 52 [.int .i64 0, .slice none 0 0], own kCoin 123 u4247 t4245]) HM, ?_⟩
          have hS := Mem.suf (M := [own kCoin 123 u4253 t4251.fCoins, box b4255 52 [.int .i64 0, .slice none 0 0], own kCoin 123 u4247 t4245]) HM
          replace HM := HM.front 1 rfl rfl
          refine drw_any [6] (by kernel_rfl) rfl (.cons ?_ .nil)
          refine br_doesS (l' := #[true, true, true, true, true, true, true]) rfl (guard_none rfl) rfl (by kernel_rfl) (does_store (vs := [.int .i64 t4251.fCode, u4253]) (cs' := [.int .i64 t4251.fCode, u4253]) rfl rfl rfl rfl tsz52 (Ones.int (Ones.rd (HM.own_rd 1 rfl) Ones.nil)) rfl rfl HM) ?_
          rintro w4269 HM
          refine ⟨Mem.suf (M := [box b4255 52 [.int .i64 t4251.fCode, u4253], own kCoin 123 u4253 t4251.fCoins, own kCoin 123 u4247 t4245]) HM, ?_⟩
          have hS := Mem.suf (M := [box b4255 52 [.int .i64 t4251.fCode, u4253], own kCoin 123 u4253 t4251.fCoins, own kCoin 123 u4247 t4245]) HM
          refine drw_done (by kernel_rfl) ?_
          replace HM := (HM.front 2 rfl rfl).drop
          replace HM := HM.front 1 rfl rfl
          replace HM := HM.front 1 rfl rfl
          replace HM := HM.front 2 rfl rfl
          exact at_meet [(0, p0), (3, .pointer (some ⟨b4236, 0, none⟩)), (6, .pointer (some ⟨b4255, 0, none⟩))] ⟨_, _, rfl, HM⟩ (Sub.cons rfl (Sub.cons rfl (Sub.cons rfl Sub.nil)))
      · skip
        refine br_does (l' := #[true, false, true, false, false, true, false]) rfl (guard_none rfl) rfl rfl (by kernel_rfl) (does_alloc (cs := [.int .i64 0, .slice none 0 0]) rfl tz52 rfl HM) ?_
        rintro _ w4270 ⟨b4255, rfl, HM⟩
        refine ⟨Mem.suf (M := [box b4255 52 [.int .i64 0, .slice none 0 0]]) HM, ?_⟩
        have hS := Mem.suf (M := [box b4255 52 [.int .i64 0, .slice none 0 0]]) HM
        refine drw_any [1] (by kernel_rfl) rfl (.cons ?_ .nil)
        refine br_does (l' := #[true, true, true, false, false, true, false]) rfl (guard_none rfl) rfl rfl (by kernel_rfl) (does_callk rfl callok20 rfl (laws_toCoinS.calls (x0 := x0) (HM.rd hp0) h4246)) ?_
        rintro u4247 w4271 ⟨_, rfl, hn⟩
        replace HM : Mem w [] w4271 [own kCoin 123 u4247 t4245, box b4255 52 [.int .i64 0, .slice none 0 0], box b4236 50 [.int .i64 x1.fTx, .int .i64 x1.fAt]] := HM.call hn
        refine ⟨Mem.suf (M := [own kCoin 123 u4247 t4245, box b4255 52 [.int .i64 0, .slice none 0 0]]) HM, ?_⟩
        have hS := Mem.suf (M := [own kCoin 123 u4247 t4245, box b4255 52 [.int .i64 0, .slice none 0 0]]) HM
        refine drw_any [3] (by kernel_rfl) rfl (.cons ?_ .nil)
        refine br_does (l' := #[true, true, true, true, false, true, false]) rfl (guard_none rfl) rfl rfl (by kernel_rfl) (does_callk rfl callok25 rfl (laws_toRef.calls (x0 := x1) h4250)) ?_
        rintro _ w4272 ⟨rfl, hn⟩
        replace HM : Mem w [] w4272 [own kCoin 123 u4247 t4245, box b4255 52 [.int .i64 0, .slice none 0 0], box b4236 50 [.int .i64 x1.fTx, .int .i64 x1.fAt]] := HM.call hn
        refine ⟨Mem.suf (M := [own kCoin 123 u4247 t4245, box b4255 52 [.int .i64 0, .slice none 0 0]]) HM, ?_⟩
        have hS := Mem.suf (M := [own kCoin 123 u4247 t4245, box b4255 52 [.int .i64 0, .slice none 0 0]]) HM
        refine drw_any [4] (by kernel_rfl) rfl (.cons ?_ .nil)
        refine br_does (l' := #[true, true, true, true, true, true, false]) rfl (guard_none rfl) rfl rfl (by kernel_rfl) (does_callk rfl callok24 rfl (spec_CoinAt.calls (x0 := t4245) (x1 := t4249) (HM.own_rd 0 rfl) h4252)) ?_
        rintro _ w4273 ⟨u4253, rfl, hn⟩
        replace HM : Mem w [] w4273 [own kCoin 123 u4253 t4251.fCoins, own kCoin 123 u4247 t4245, box b4255 52 [.int .i64 0, .slice none 0 0], box b4236 50 [.int .i64 x1.fTx, .int .i64 x1.fAt]] := HM.call hn
        refine ⟨Mem.suf (M := [own kCoin 123 u4253 t4251.fCoins, own kCoin 123 u4247 t4245, box b4255 52 [.int .i64 0, .slice none 0 0]]) HM, ?_⟩
        have hS := Mem.suf (M := [own kCoin 123 u4253 t4251.fCoins, own kCoin 123 u4247 t4245, box b4255 52 [.int .i64 0, .slice none 0 0]]) HM
        replace HM := HM.front 2 rfl rfl
        refine drw_any [6] (by kernel_rfl) rfl (.cons ?_ .nil)
        refine br_doesS (l' := #[true, true, true, true, true, true, true]) rfl (guard_none rfl) rfl (by kernel_rfl) (does_store (vs := [.int .i64 t4251.fCode, u4253]) (cs' := [.int .i64 t4251.fCode, u4253]) rfl rfl rfl rfl tsz52 (Ones.int (Ones.rd (HM.own_rd 1 rfl) Ones.nil)) rfl rfl HM) ?_
        rintro w4274 HM
        refine ⟨Mem.suf (M := [box b4255 52 [.int .i64 t4251.fCode, u4253], own kCoin 123 u4253 t4251.fCoins, own kCoin 123 u4247 t4245]) HM, ?_⟩
        have hS := Mem.suf (M := [box b4255 52 [.int .i64 t4251.fCode, u4253], own kCoin 123 u4253 t4251.fCoins, own kCoin 123 u4247 t4245]) HM
        refine drw_done (by kernel_rfl) ?_
        replace HM := (HM.front 2 rfl rfl).drop
        replace HM := HM.front 1 rfl rfl
        replace HM := HM.front 1 rfl rfl
        replace HM := HM.front 2 rfl rfl
        exact at_meet [(0, p0), (3, .pointer (some ⟨b4236, 0, none⟩)), (6, .pointer (some ⟨b4255, 0, none⟩))] ⟨_, _, rfl, HM⟩ (Sub.cons rfl (Sub.cons rfl (Sub.cons rfl Sub.nil)))
    · rintro _ w4275 ⟨u4253, b4255, rfl, HM⟩
      refine at_then ?_
      refine run_seq ?_
      obtain ⟨t4276, h4277, H⟩ := bind_some H
      refine run_region rfl ?_
      refine ops_ex rfl (guard_none rfl) rfl rfl (ex_move rfl rfl) ?_
      refine ops_does rfl (guard_none rfl) rfl rfl (does_callk rfl callok20 rfl (laws_toCoinS.calls (x0 := x0) (HM.rd hp0) h4277)) ?_
      rintro u4278 w4280 ⟨_, rfl, hn⟩
      replace HM : Mem w [] w4280 [own kCoin 123 u4278 t4276, box b4236 50 [.int .i64 x1.fTx, .int .i64 x1.fAt], box b4255 52 [.int .i64 t4251.fCode, u4253], own kCoin 123 u4253 t4251.fCoins] := HM.call hn
      refine ops_ex rfl (guard_none rfl) rfl rfl (ex_assign rfl rfl) ?_
      refine ops_nil ?_
      refine at_then ?_
      refine run_seq ?_
      obtain ⟨t4281, h4282, H⟩ := bind_some H
      obtain ⟨t4283, h4284, H⟩ := bind_some H
      refine run_region rfl ?_
      refine ops_ex rfl (guard_none rfl) rfl rfl (ex_move rfl rfl) ?_
      refine ops_ex rfl (guard_none rfl) rfl rfl (ex_loadN (cs := [(.int .i64 x1.fTx), (.int .i64 x1.fAt)]) rfl rfl Try.underlying50 rfl tsz50 rfl ((HM.box_at 1 rfl).sub 0 2 rfl)) ?_
      refine ops_does rfl (guard_none rfl) rfl rfl (does_callk rfl callok25 rfl (laws_toRef.calls (x0 := x1) h4282)) ?_
      rintro _ w4290 ⟨rfl, hn⟩
      replace HM : Mem w [] w4290 [own kCoin 123 u4278 t4276, box b4236 50 [.int .i64 x1.fTx, .int .i64 x1.fAt], box b4255 52 [.int .i64 t4251.fCode, u4253], own kCoin 123 u4253 t4251.fCoins] := HM.call hn
      refine ops_does rfl (guard_none rfl) rfl rfl (does_callk rfl callok26 rfl (impl_CoinAt.calls (x0 := t4276) (x1 := t4281) (HM.own_rd 0 rfl) h4284)) ?_
      rintro _ w4291 ⟨u4285, rfl, hn⟩
      replace HM : Mem w [] w4291 [own kCoin 123 u4285 t4283.fCoins, own kCoin 123 u4278 t4276, box b4236 50 [.int .i64 x1.fTx, .int .i64 x1.fAt], box b4255 52 [.int .i64 t4251.fCode, u4253], own kCoin 123 u4253 t4251.fCoins] := HM.call hn
      refine ops_does rfl (guard_none rfl) rfl rfl (does_alloc (cs := [.int .i64 0, .slice none 0 0]) rfl tz52 rfl HM) ?_
      rintro _ w4292 ⟨b4287, rfl, HM⟩
      refine ops_doesS rfl (guard_none rfl) rfl (does_store (vs := [.int .i64 t4283.fCode, u4285]) (cs' := [.int .i64 t4283.fCode, u4285]) rfl rfl rfl rfl tsz52 (Ones.int (Ones.rd (HM.own_rd 1 rfl) Ones.nil)) rfl rfl HM) ?_
      rintro w4293 HM
      refine ops_nil ?_
      refine at_then ?_
      refine run_seq ?_
      refine run_seq ?_
      obtain ⟨t4297, h4298, H⟩ := bind_some H
      refine run_region rfl ?_
      refine ops_ex rfl (guard_none rfl) rfl rfl (ex_loadN (cs := [(.int .i64 t4283.fCode), u4285]) rfl rfl Try.underlying52 rfl tsz52 rfl ((HM.box_at 0 rfl).sub 0 2 rfl)) ?_
      refine ops_ex rfl (guard_none rfl) rfl rfl (ex_loadN (cs := [(.int .i64 t4251.fCode), u4253]) rfl rfl Try.underlying52 rfl tsz52 rfl ((HM.box_at 4 rfl).sub 0 2 rfl)) ?_
      refine ops_does rfl (guard_none rfl) rfl rfl (does_callk rfl callok27 rfl (laws_eqCoinsResult.calls (x0 := t4283) (x1 := t4251) (HM.own_rd 1 rfl) (HM.own_rd 5 rfl) h4298)) ?_
      rintro _ w4299 ⟨rfl, hn⟩
      replace HM : Mem w [] w4299 [box b4287 52 [.int .i64 t4283.fCode, u4285], own kCoin 123 u4285 t4283.fCoins, own kCoin 123 u4278 t4276, box b4236 50 [.int .i64 x1.fTx, .int .i64 x1.fAt], box b4255 52 [.int .i64 t4251.fCode, u4253], own kCoin 123 u4253 t4251.fCoins] := HM.call hn
      refine ops_ex rfl (guard_none rfl) rfl rfl (ex_not rfl rfl) ?_
      refine ops_nil ?_
      refine at_then ?_
      refine run_cond (b := !t4297) rfl (fun hb4300 => ?_) (fun hb4300 => ?_)
      · replace H := cond_t hb4300 H
        refine run_seq ?_
        refine run_region rfl ?_
        refine ops_ex rfl (guard_none rfl) rfl rfl (ex_assign rfl rfl) ?_
        refine ops_nil ?_
        refine at_then ?_
        refine run_ret ?_
        refine at_then_ret ?_
        replace HM := (HM.front 0 rfl rfl).drop
        replace HM := (HM.front 0 rfl rfl).drop
        replace HM := (HM.front 0 rfl rfl).drop
        replace HM := (HM.front 0 rfl rfl).drop
        replace HM := (HM.front 0 rfl rfl).drop
        replace HM := (HM.front 0 rfl rfl).drop
        have hR := Option.some.inj H
        subst hR
        exact at_ret1 rfl rfl ⟨_, rfl, rfl, HM⟩
      · replace H := cond_f hb4300 H
        refine run_skip ?_
        refine at_then ?_
        refine run_seq ?_
        refine run_seq ?_
        obtain ⟨t4308, h4309, H⟩ := bind_some H
        obtain ⟨t4312, h4313, H⟩ := bind_some H
        refine run_region rfl ?_
        refine ops_ex rfl (guard_none rfl) rfl rfl (ex_move rfl rfl) ?_
        refine ops_ex rfl (guard_none rfl) rfl rfl (ex_move rfl rfl) ?_
        refine ops_does rfl (guard_none rfl) rfl rfl (does_callk rfl callok20 rfl (laws_toCoinS.calls (x0 := x0) (HM.rd hp0) h4309)) ?_
        rintro u4310 w4314 ⟨_, rfl, hn⟩
        replace HM : Mem w [] w4314 [own kCoin 123 u4310 t4308, box b4287 52 [.int .i64 t4283.fCode, u4285], own kCoin 123 u4285 t4283.fCoins, own kCoin 123 u4278 t4276, box b4236 50 [.int .i64 x1.fTx, .int .i64 x1.fAt], box b4255 52 [.int .i64 t4251.fCode, u4253], own kCoin 123 u4253 t4251.fCoins] := HM.call hn
        refine ops_does rfl (guard_none rfl) rfl rfl (does_callk rfl callok23 rfl (laws_eqCoinS.calls (x0 := t4276) (x1 := t4308) (HM.own_rd 3 rfl) (HM.own_rd 0 rfl) h4313)) ?_
        rintro _ w4315 ⟨rfl, hn⟩
        replace HM : Mem w [] w4315 [own kCoin 123 u4310 t4308, box b4287 52 [.int .i64 t4283.fCode, u4285], own kCoin 123 u4285 t4283.fCoins, own kCoin 123 u4278 t4276, box b4236 50 [.int .i64 x1.fTx, .int .i64 x1.fAt], box b4255 52 [.int .i64 t4251.fCode, u4253], own kCoin 123 u4253 t4251.fCoins] := HM.call hn
        refine ops_ex rfl (guard_none rfl) rfl rfl (ex_not rfl rfl) ?_
        refine ops_nil ?_
        refine at_then ?_
        refine run_cond (b := !t4312) rfl (fun hb4316 => ?_) (fun hb4316 => ?_)
        · replace H := cond_t hb4316 H
          refine run_seq ?_
          refine run_region rfl ?_
          refine ops_ex rfl (guard_none rfl) rfl rfl (ex_assign rfl rfl) ?_
          refine ops_nil ?_
          refine at_then ?_
          refine run_ret ?_
          refine at_then_ret ?_
          replace HM := (HM.front 0 rfl rfl).drop
          replace HM := (HM.front 0 rfl rfl).drop
          replace HM := (HM.front 0 rfl rfl).drop
          replace HM := (HM.front 0 rfl rfl).drop
          replace HM := (HM.front 0 rfl rfl).drop
          replace HM := (HM.front 0 rfl rfl).drop
          replace HM := (HM.front 0 rfl rfl).drop
          have hR := Option.some.inj H
          subst hR
          exact at_ret1 rfl rfl ⟨_, rfl, rfl, HM⟩
        · replace H := cond_f hb4316 H
          refine run_skip ?_
          refine at_then ?_
          refine run_seq ?_
          refine run_region rfl ?_
          refine ops_ex rfl (guard_none rfl) rfl rfl (ex_assign rfl rfl) ?_
          refine ops_nil ?_
          refine at_then ?_
          refine run_seq ?_
          obtain ⟨t4317, h4318, H⟩ := bind_some H
          refine run_region rfl ?_
          refine ops_ex rfl (guard_none rfl) rfl rfl (ex_move rfl rfl) ?_
          refine ops_ex rfl (guard_none rfl) rfl rfl (ex_move rfl rfl) ?_
          replace HM := HM.front 3 rfl rfl
          obtain ⟨F4319, hF4320, hFn4321, hFl4322, HMh4323, hcl4324⟩ := HM.hide (Ms := [own kCoin 123 u4278 t4276])
          refine ops_does rfl (guard_none rfl) rfl rfl (does_callk rfl callok28 rfl (laws_markCoinS.calls (x0 := t4276) (x1 := 1) (hide_olds _ _) hF4320 hFn4321 hFl4322 h4318)) ?_
          rintro _ w4325 ⟨rfl, hn⟩
          replace HM : Mem w [] w4325 [own kCoin 123 u4278 t4317.2, own kCoin 123 u4310 t4308, box b4287 52 [.int .i64 t4283.fCode, u4285], own kCoin 123 u4285 t4283.fCoins, box b4236 50 [.int .i64 x1.fTx, .int .i64 x1.fAt], box b4255 52 [.int .i64 t4251.fCode, u4253], own kCoin 123 u4253 t4251.fCoins] := hcl4324 _ _ hn
          refine ops_ex rfl (guard_none rfl) rfl rfl (ex_assign rfl rfl) ?_
          refine ops_nil ?_
          refine at_then ?_
          refine run_seq ?_
          refine run_seq ?_
          obtain ⟨t4329, h4330, H⟩ := bind_some H
          refine run_meet (fun ρ_ w_ => ρ_ = [(0, p0), (3, .pointer (some ⟨b4236, 0, none⟩)), (6, .pointer (some ⟨b4255, 0, none⟩)), (8, .pointer (some ⟨b4287, 0, none⟩)), (48, .bool ((decide (t4317.1 < 0)) || (!t4329)))] ∧ Mem w [] w_ [box b4236 50 [.int .i64 x1.fTx, .int .i64 x1.fAt], box b4255 52 [.int .i64 t4251.fCode, u4253], own kCoin 123 u4253 t4251.fCoins, box b4287 52 [.int .i64 t4283.fCode, u4285], own kCoin 123 u4285 t4283.fCoins]) ?_ ?_
          · skip
            refine run_region rfl ?_
            refine ops_ex rfl (guard_none rfl) rfl rfl (ex_move rfl rfl) ?_
            refine ops_ex rfl (guard_none rfl) rfl rfl (ex_lss rfl rfl rfl) ?_
            refine ops_ex rfl (guard_none rfl) rfl rfl (ex_move rfl rfl) ?_
            refine bool_cases (decide (t4317.1 < 0)) (fun hg4331 => ?_) (fun hg4331 => ?_)
            · skip
              refine ops_off rfl (guard_off rfl rfl rfl hg4331) rfl rfl ?_
              refine ops_off rfl (guard_off rfl rfl rfl hg4331) rfl rfl ?_
              refine ops_off rfl (guard_off rfl rfl rfl hg4331) rfl rfl ?_
              refine ops_off rfl (guard_off rfl rfl rfl hg4331) rfl rfl ?_
              have hg4332 : ((decide (t4317.1 < 0)) || (!t4329)) = true := by simp only [hg4331, Bool.and_true, Bool.true_and, Bool.and_false, Bool.false_and, Bool.or_true, Bool.true_or, Bool.or_false, Bool.false_or, Bool.not_true, Bool.not_false, Bool.not_not]
              refine ops_ex (v := .bool ((decide (t4317.1 < 0)) || (!t4329))) rfl (guard_none rfl) rfl rfl (ex_por_t rfl rfl hg4331) ?_
              refine ops_nil ?_
              replace HM := (HM.front 0 rfl rfl).drop
              replace HM := (HM.front 0 rfl rfl).drop
              replace HM := HM.front 1 rfl rfl
              replace HM := HM.front 1 rfl rfl
              replace HM := HM.front 4 rfl rfl
              replace HM := HM.front 4 rfl rfl
              replace HM := HM.front 4 rfl rfl
              exact at_meet [(0, p0), (3, .pointer (some ⟨b4236, 0, none⟩)), (6, .pointer (some ⟨b4255, 0, none⟩)), (8, .pointer (some ⟨b4287, 0, none⟩)), (48, .bool ((decide (t4317.1 < 0)) || (!t4329)))] ⟨rfl, HM⟩ (Sub.cons rfl (Sub.cons rfl (Sub.cons rfl (Sub.cons rfl (Sub.cons rfl Sub.nil)))))
            · skip
              refine ops_ex rfl (guard_on rfl rfl rfl hg4331) rfl rfl (ex_loadN (cs := [(.int .i64 t4283.fCode), u4285]) rfl rfl Try.underlying52 rfl tsz52 rfl ((HM.box_at 2 rfl).sub 0 2 rfl)) ?_
              refine ops_ex rfl (guard_on rfl rfl rfl hg4331) rfl rfl (ex_loadN (cs := [(.int .i64 t4251.fCode), u4253]) rfl rfl Try.underlying52 rfl tsz52 rfl ((HM.box_at 5 rfl).sub 0 2 rfl)) ?_
              refine ops_does rfl (guard_on rfl rfl rfl hg4331) rfl rfl (does_callk rfl callok27 rfl (laws_eqCoinsResult.calls (x0 := t4283) (x1 := t4251) (HM.own_rd 3 rfl) (HM.own_rd 6 rfl) (cond_t (not_mk hg4331) h4330))) ?_
              rintro _ w4333 ⟨rfl, hn⟩
              replace HM : Mem w [] w4333 [own kCoin 123 u4278 t4317.2, own kCoin 123 u4310 t4308, box b4287 52 [.int .i64 t4283.fCode, u4285], own kCoin 123 u4285 t4283.fCoins, box b4236 50 [.int .i64 x1.fTx, .int .i64 x1.fAt], box b4255 52 [.int .i64 t4251.fCode, u4253], own kCoin 123 u4253 t4251.fCoins] := HM.call hn
              refine ops_ex rfl (guard_on rfl rfl rfl hg4331) rfl rfl (ex_not rfl rfl) ?_
              refine ops_ex (v := .bool ((decide (t4317.1 < 0)) || (!t4329))) rfl (guard_none rfl) rfl rfl (ex_por_f rfl rfl hg4331 rfl) ?_
              refine ops_nil ?_
              replace HM := (HM.front 0 rfl rfl).drop
              replace HM := (HM.front 0 rfl rfl).drop
              replace HM := HM.front 1 rfl rfl
              replace HM := HM.front 1 rfl rfl
              replace HM := HM.front 4 rfl rfl
              replace HM := HM.front 4 rfl rfl
              replace HM := HM.front 4 rfl rfl
              exact at_meet [(0, p0), (3, .pointer (some ⟨b4236, 0, none⟩)), (6, .pointer (some ⟨b4255, 0, none⟩)), (8, .pointer (some ⟨b4287, 0, none⟩)), (48, .bool ((decide (t4317.1 < 0)) || (!t4329)))] ⟨rfl, HM⟩ (Sub.cons rfl (Sub.cons rfl (Sub.cons rfl (Sub.cons rfl (Sub.cons rfl Sub.nil)))))
          · rintro _ w4334 ⟨rfl, HM⟩
            refine at_then ?_
            refine run_cond (b := ((decide (t4317.1 < 0)) || (!t4329))) rfl (fun hb4335 => ?_) (fun hb4335 => ?_)
            · replace H := cond_t hb4335 H
              refine run_seq ?_
              refine run_region rfl ?_
              refine ops_ex rfl (guard_none rfl) rfl rfl (ex_assign rfl rfl) ?_
              refine ops_nil ?_
              refine at_then ?_
              refine run_ret ?_
              refine at_then_ret ?_
              replace HM := (HM.front 0 rfl rfl).drop
              replace HM := (HM.front 0 rfl rfl).drop
              replace HM := (HM.front 0 rfl rfl).drop
              replace HM := (HM.front 0 rfl rfl).drop
              replace HM := (HM.front 0 rfl rfl).drop
              have hR := Option.some.inj H
              subst hR
              exact at_ret1 rfl rfl ⟨_, rfl, rfl, HM⟩
            · replace H := cond_f hb4335 H
              refine run_skip ?_
              refine at_then ?_
              refine run_seq ?_
              refine run_region rfl ?_
              refine ops_ex rfl (guard_none rfl) rfl rfl (ex_assign rfl rfl) ?_
              refine ops_nil ?_
              refine at_then ?_
              refine run_seq ?_
              obtain ⟨t4336, h4337, H⟩ := bind_some H
              refine run_region rfl ?_
              refine ops_ex rfl (guard_none rfl) rfl rfl (ex_loadN (cs := [(.int .i64 t4283.fCode), u4285]) rfl rfl Try.underlying52 rfl tsz52 rfl ((HM.box_at 3 rfl).sub 0 2 rfl)) ?_
              refine ops_ex rfl (guard_none rfl) rfl rfl (ex_move rfl rfl) ?_
              replace HM := HM.front 4 rfl rfl
              obtain ⟨F4338, hF4339, hFn4340, hFl4341, HMh4342, hcl4343⟩ := HM.hide (Ms := [own kCoin 123 u4285 t4283.fCoins])
              refine ops_does rfl (guard_none rfl) rfl rfl (does_callk rfl callok29 rfl (laws_markCoinsResult.calls (x0 := t4283) (x1 := 1) (hide_olds _ _) hF4339 hFn4340 hFl4341 h4337)) ?_
              rintro _ w4344 ⟨rfl, hn⟩
              replace HM : Mem w [] w4344 [own kCoin 123 u4285 t4336.2, box b4236 50 [.int .i64 x1.fTx, .int .i64 x1.fAt], box b4255 52 [.int .i64 t4251.fCode, u4253], own kCoin 123 u4253 t4251.fCoins, box b4287 52 [.int .i64 t4283.fCode, u4285]] := hcl4343 _ _ hn
              refine ops_ex rfl (guard_none rfl) rfl rfl (ex_assign rfl rfl) ?_
              refine ops_nil ?_
              refine at_then ?_
              refine run_seq ?_
              refine run_region rfl ?_
              refine ops_ex rfl (guard_none rfl) rfl rfl (ex_assign rfl rfl) ?_
              refine ops_nil ?_
              refine at_then ?_
              refine run_seq ?_
              obtain ⟨t4345, h4346, H⟩ := bind_some H
              refine run_region rfl ?_
              refine ops_ex rfl (guard_none rfl) rfl rfl (ex_loadN (cs := [(.int .i64 t4283.fCode), u4285]) rfl rfl Try.underlying52 rfl tsz52 rfl ((HM.box_at 4 rfl).sub 0 2 rfl)) ?_
              refine ops_ex rfl (guard_none rfl) rfl rfl (ex_move rfl rfl) ?_
              refine ops_does rfl (guard_none rfl) rfl rfl (does_callk rfl callok30 rfl (laws_heldCoinsResult.calls (x0 := (⟨t4283.fCode, t4336.2⟩ : CoinsResult)) (x1 := 1) (HM.own_rd 0 rfl) h4346)) ?_
              rintro _ w4347 ⟨rfl, hn⟩
              replace HM : Mem w [] w4347 [own kCoin 123 u4285 t4336.2, box b4236 50 [.int .i64 x1.fTx, .int .i64 x1.fAt], box b4255 52 [.int .i64 t4251.fCode, u4253], own kCoin 123 u4253 t4251.fCoins, box b4287 52 [.int .i64 t4283.fCode, u4285]] := HM.call hn
              refine ops_ex rfl (guard_none rfl) rfl rfl (ex_assign rfl rfl) ?_
              refine ops_nil ?_
              refine at_then ?_
              refine run_seq ?_
              refine run_seq ?_
              refine run_region rfl ?_
              refine ops_ex rfl (guard_none rfl) rfl rfl (ex_move rfl rfl) ?_
              refine ops_ex rfl (guard_none rfl) rfl rfl (ex_lss rfl rfl rfl) ?_
              refine ops_nil ?_
              refine at_then ?_
              refine run_cond (b := (decide (t4345 < 0))) rfl (fun hb4349 => ?_) (fun hb4349 => ?_)
              · replace H := cond_t hb4349 H
                refine run_seq ?_
                refine run_region rfl ?_
                refine ops_ex rfl (guard_none rfl) rfl rfl (ex_assign rfl rfl) ?_
                refine ops_nil ?_
                refine at_then ?_
                refine run_ret ?_
                refine at_then_ret ?_
                replace HM := (HM.front 0 rfl rfl).drop
                replace HM := (HM.front 0 rfl rfl).drop
                replace HM := (HM.front 0 rfl rfl).drop
                replace HM := (HM.front 0 rfl rfl).drop
                replace HM := (HM.front 0 rfl rfl).drop
                have hR := Option.some.inj H
                subst hR
                exact at_ret1 rfl rfl ⟨_, rfl, rfl, HM⟩
              · replace H := cond_f hb4349 H
                refine run_skip ?_
                refine at_then ?_
                refine run_seq ?_
                refine run_seq ?_
                refine run_region rfl ?_
                refine ops_ex rfl (guard_none rfl) rfl rfl (ex_move rfl rfl) ?_
                refine ops_ex rfl (guard_none rfl) rfl rfl (ex_move rfl rfl) ?_
                refine ops_ex rfl (guard_none rfl) rfl rfl (ex_neq rfl rfl rfl) ?_
                refine ops_nil ?_
                refine at_then ?_
                refine run_cond (b := (t4345 != t4336.1)) rfl (fun hb4351 => ?_) (fun hb4351 => ?_)
                · replace H := cond_t hb4351 H
                  refine run_seq ?_
                  refine run_region rfl ?_
                  refine ops_ex rfl (guard_none rfl) rfl rfl (ex_assign rfl rfl) ?_
                  refine ops_nil ?_
                  refine at_then ?_
                  refine run_ret ?_
                  refine at_then_ret ?_
                  replace HM := (HM.front 0 rfl rfl).drop
                  replace HM := (HM.front 0 rfl rfl).drop
                  replace HM := (HM.front 0 rfl rfl).drop
                  replace HM := (HM.front 0 rfl rfl).drop
                  replace HM := (HM.front 0 rfl rfl).drop
                  have hR := Option.some.inj H
                  subst hR
                  exact at_ret1 rfl rfl ⟨_, rfl, rfl, HM⟩
                · replace H := cond_f hb4351 H
                  refine run_skip ?_
                  refine at_then ?_
                  refine run_seq ?_
                  obtain ⟨t4352, h4353, H⟩ := bind_some H
                  obtain ⟨t4356, h4357, H⟩ := bind_some H
                  obtain ⟨t4358, h4359, H⟩ := bind_some H
                  refine run_meet (fun ρ_ w_ => ∃ u4360 : Value, ∃ b4362 : Nat, ρ_ = [(6, .pointer (some ⟨b4255, 0, none⟩)), (8, .pointer (some ⟨b4287, 0, none⟩)), (10, .int .i64 t4336.1), (12, .pointer (some ⟨b4362, 0, none⟩))] ∧ Mem w [] w_ [box b4255 52 [.int .i64 t4251.fCode, u4253], own kCoin 123 u4253 t4251.fCoins, box b4287 52 [.int .i64 t4283.fCode, u4285], own kCoin 123 u4285 t4336.2, box b4362 52 [.int .i64 t4358.fCode, u4360], own kCoin 123 u4360 t4358.fCoins]) ?_ ?_
                  · skip
                    refine run_draw (fun w_ => Mem w [] w_ [own kCoin 123 u4285 t4336.2, box b4236 50 [.int .i64 x1.fTx, .int .i64 x1.fAt], box b4255 52 [.int .i64 t4251.fCode, u4253], own kCoin 123 u4253 t4251.fCoins, box b4287 52 [.int .i64 t4283.fCode, u4285]]) mixed rfl (l := #[false, false, false, false, false, false, false]) rfl ?_
                    replace HM := HM.grow (fr_drew _)
                    have hS := Mem.suf (M := []) HM
                    refine drw_take (i := 0) (l' := #[true, false, false, false, false, false, false]) rfl (guard_none rfl) rfl rfl (by kernel_rfl) (fun w_ hS_ => (ex_move rfl rfl)) hS ?_
                    refine drw_take (i := 2) (l' := #[true, false, true, false, false, false, false]) rfl (guard_none rfl) rfl rfl (by kernel_rfl) (fun w_ hS_ => (ex_loadN (cs := [(.int .i64 x1.fTx), (.int .i64 x1.fAt)]) rfl rfl Try.underlying50 rfl tsz50 rfl ((hS_.box_at 1 rfl).sub 0 2 rfl))) hS ?_
                    refine drw_any [1, 5] (by kernel_rfl) rfl (.cons ?_ (.cons ?_ .nil))
                    · skip
                      refine br_does (l' := #[true, true, true, false, false, false, false]) rfl (guard_none rfl) rfl rfl (by kernel_rfl) (does_callk rfl callok20 rfl (laws_toCoinS.calls (x0 := x0) (HM.rd hp0) h4353)) ?_
                      rintro u4354 w4365 ⟨_, rfl, hn⟩
                      replace HM : Mem w [] w4365 [own kCoin 123 u4354 t4352, own kCoin 123 u4285 t4336.2, box b4236 50 [.int .i64 x1.fTx, .int .i64 x1.fAt], box b4255 52 [.int .i64 t4251.fCode, u4253], own kCoin 123 u4253 t4251.fCoins, box b4287 52 [.int .i64 t4283.fCode, u4285]] := HM.call hn
                      refine ⟨Mem.suf (M := [own kCoin 123 u4354 t4352]) HM, ?_⟩
                      have hS := Mem.suf (M := [own kCoin 123 u4354 t4352]) HM
                      refine drw_any [3, 5] (by kernel_rfl) rfl (.cons ?_ (.cons ?_ .nil))
                      · skip
                        refine br_does (l' := #[true, true, true, true, false, false, false]) rfl (guard_none rfl) rfl rfl (by kernel_rfl) (does_callk rfl callok25 rfl (laws_toRef.calls (x0 := x1) h4357)) ?_
                        rintro _ w4366 ⟨rfl, hn⟩
                        replace HM : Mem w [] w4366 [own kCoin 123 u4354 t4352, own kCoin 123 u4285 t4336.2, box b4236 50 [.int .i64 x1.fTx, .int .i64 x1.fAt], box b4255 52 [.int .i64 t4251.fCode, u4253], own kCoin 123 u4253 t4251.fCoins, box b4287 52 [.int .i64 t4283.fCode, u4285]] := HM.call hn
                        refine ⟨Mem.suf (M := [own kCoin 123 u4354 t4352]) HM, ?_⟩
                        have hS := Mem.suf (M := [own kCoin 123 u4354 t4352]) HM
                        refine drw_any [4, 5] (by kernel_rfl) rfl (.cons ?_ (.cons ?_ .nil))
                        · skip
                          refine br_does (l' := #[true, true, true, true, true, false, false]) rfl (guard_none rfl) rfl rfl (by kernel_rfl) (does_callk rfl callok26 rfl (impl_CoinAt.calls (x0 := t4352) (x1 := t4356) (HM.own_rd 0 rfl) h4359)) ?_
                          rintro _ w4367 ⟨u4360, rfl, hn⟩
                          replace HM : Mem w [] w4367 [own kCoin 123 u4360 t4358.fCoins, own kCoin 123 u4354 t4352, own kCoin 123 u4285 t4336.2, box b4236 50 [.int .i64 x1.fTx, .int .i64 x1.fAt], box b4255 52 [.int .i64 t4251.fCode, u4253], own kCoin 123 u4253 t4251.fCoins, box b4287 52 [.int .i64 t4283.fCode, u4285]] := HM.call hn
                          refine ⟨Mem.suf (M := [own kCoin 123 u4360 t4358.fCoins, own kCoin 123 u4354 t4352]) HM, ?_⟩
                          have hS := Mem.suf (M := [own kCoin 123 u4360 t4358.fCoins, own kCoin 123 u4354 t4352]) HM
                          refine drw_any [5] (by kernel_rfl) rfl (.cons ?_ .nil)
                          refine br_does (l' := #[true, true, true, true, true, true, false]) rfl (guard_none rfl) rfl rfl (by kernel_rfl) (does_alloc (cs := [.int .i64 0, .slice none 0 0]) rfl tz52 rfl HM) ?_
                          rintro _ w4368 ⟨b4362, rfl, HM⟩
                          refine ⟨Mem.suf (M := [box b4362 52 [.int .i64 0, .slice none 0 0], own kCoin 123 u4360 t4358.fCoins, own kCoin 123 u4354 t4352]) HM, ?_⟩
                          have hS := Mem.suf (M := [box b4362 52 [.int .i64 0, .slice none 0 0], own kCoin 123 u4360 t4358.fCoins, own kCoin 123 u4354 t4352]) HM
                          refine drw_any [6] (by kernel_rfl) rfl (.cons ?_ .nil)
                          refine br_doesS (l' := #[true, true, true, true, true, true, true]) rfl (guard_none rfl) rfl (by kernel_rfl) (does_store (vs := [.int .i64 t4358.fCode, u4360]) (cs' := [.int .i64 t4358.fCode, u4360]) rfl rfl rfl rfl tsz52 (Ones.int (Ones.rd (HM.own_rd 1 rfl) Ones.nil)) rfl rfl HM) ?_
                          rintro w4369 HM
                          refine ⟨Mem.suf (M := [box b4362 52 [.int .i64 t4358.fCode, u4360], own kCoin 123 u4360 t4358.fCoins, own kCoin 123 u4354 t4352]) HM, ?_⟩
                          have hS := Mem.suf (M := [box b4362 52 [.int .i64 t4358.fCode, u4360], own kCoin 123 u4360 t4358.fCoins, own kCoin 123 u4354 t4352]) HM
                          refine drw_done (by kernel_rfl) ?_
                          replace HM := (HM.front 2 rfl rfl).drop
                          replace HM := (HM.front 3 rfl rfl).drop
                          replace HM := HM.front 1 rfl rfl
                          replace HM := HM.front 1 rfl rfl
                          replace HM := HM.front 2 rfl rfl
                          replace HM := HM.front 5 rfl rfl
                          replace HM := HM.front 5 rfl rfl
                          replace HM := HM.front 5 rfl rfl
                          exact at_meet [(6, .pointer (some ⟨b4255, 0, none⟩)), (8, .pointer (some ⟨b4287, 0, none⟩)), (10, .int .i64 t4336.1), (12, .pointer (some ⟨b4362, 0, none⟩))] ⟨_, _, rfl, HM⟩ (Sub.cons rfl (Sub.cons rfl (Sub.cons rfl (Sub.cons rfl Sub.nil))))
                        · skip
                          refine br_does (l' := #[true, true, true, true, false, true, false]) rfl (guard_none rfl) rfl rfl (by kernel_rfl) (does_alloc (cs := [.int .i64 0, .slice none 0 0]) rfl tz52 rfl HM) ?_
                          rintro _ w4370 ⟨b4362, rfl, HM⟩
                          refine ⟨Mem.suf (M := [box b4362 52 [.int .i64 0, .slice none 0 0], own kCoin 123 u4354 t4352]) HM, ?_⟩
                          have hS := Mem.suf (M := [box b4362 52 [.int .i64 0, .slice none 0 0], own kCoin 123 u4354 t4352]) HM
                          refine drw_any [4] (by kernel_rfl) rfl (.cons ?_ .nil)
                          refine br_does (l' := #[true, true, true, true, true, true, false]) rfl (guard_none rfl) rfl rfl (by kernel_rfl) (does_callk rfl callok26 rfl (impl_CoinAt.calls (x0 := t4352) (x1 := t4356) (HM.own_rd 1 rfl) h4359)) ?_
                          rintro _ w4371 ⟨u4360, rfl, hn⟩
                          replace HM : Mem w [] w4371 [own kCoin 123 u4360 t4358.fCoins, box b4362 52 [.int .i64 0, .slice none 0 0], own kCoin 123 u4354 t4352, own kCoin 123 u4285 t4336.2, box b4236 50 [.int .i64 x1.fTx, .int .i64 x1.fAt], box b4255 52 [.int .i64 t4251.fCode, u4253], own kCoin 123 u4253 t4251.fCoins, box b4287 52 [.int .i64 t4283.fCode, u4285]] := HM.call hn
                          refine ⟨Mem.suf (M := [own kCoin 123 u4360 t4358.fCoins, box b4362 52 [.int .i64 0, .slice none 0 0], own kCoin 123 u4354 t4352]) HM, ?_⟩
                          have hS := Mem.suf (M := [own kCoin 123 u4360 t4358.fCoins, box b4362 52 [.int .i64 0, .slice none 0 0], own kCoin 123 u4354 t4352]) HM
                          replace HM := HM.front 1 rfl rfl
                          refine drw_any [6] (by kernel_rfl) rfl (.cons ?_ .nil)
                          refine br_doesS (l' := #[true, true, true, true, true, true, true]) rfl (guard_none rfl) rfl (by kernel_rfl) (does_store (vs := [.int .i64 t4358.fCode, u4360]) (cs' := [.int .i64 t4358.fCode, u4360]) rfl rfl rfl rfl tsz52 (Ones.int (Ones.rd (HM.own_rd 1 rfl) Ones.nil)) rfl rfl HM) ?_
                          rintro w4372 HM
                          refine ⟨Mem.suf (M := [box b4362 52 [.int .i64 t4358.fCode, u4360], own kCoin 123 u4360 t4358.fCoins, own kCoin 123 u4354 t4352]) HM, ?_⟩
                          have hS := Mem.suf (M := [box b4362 52 [.int .i64 t4358.fCode, u4360], own kCoin 123 u4360 t4358.fCoins, own kCoin 123 u4354 t4352]) HM
                          refine drw_done (by kernel_rfl) ?_
                          replace HM := (HM.front 2 rfl rfl).drop
                          replace HM := (HM.front 3 rfl rfl).drop
                          replace HM := HM.front 1 rfl rfl
                          replace HM := HM.front 1 rfl rfl
                          replace HM := HM.front 2 rfl rfl
                          replace HM := HM.front 5 rfl rfl
                          replace HM := HM.front 5 rfl rfl
                          replace HM := HM.front 5 rfl rfl
                          exact at_meet [(6, .pointer (some ⟨b4255, 0, none⟩)), (8, .pointer (some ⟨b4287, 0, none⟩)), (10, .int .i64 t4336.1), (12, .pointer (some ⟨b4362, 0, none⟩))] ⟨_, _, rfl, HM⟩ (Sub.cons rfl (Sub.cons rfl (Sub.cons rfl (Sub.cons rfl Sub.nil))))
                      · skip
                        refine br_does (l' := #[true, true, true, false, false, true, false]) rfl (guard_none rfl) rfl rfl (by kernel_rfl) (does_alloc (cs := [.int .i64 0, .slice none 0 0]) rfl tz52 rfl HM) ?_
                        rintro _ w4373 ⟨b4362, rfl, HM⟩
                        refine ⟨Mem.suf (M := [box b4362 52 [.int .i64 0, .slice none 0 0], own kCoin 123 u4354 t4352]) HM, ?_⟩
                        have hS := Mem.suf (M := [box b4362 52 [.int .i64 0, .slice none 0 0], own kCoin 123 u4354 t4352]) HM
                        refine drw_any [3] (by kernel_rfl) rfl (.cons ?_ .nil)
                        refine br_does (l' := #[true, true, true, true, false, true, false]) rfl (guard_none rfl) rfl rfl (by kernel_rfl) (does_callk rfl callok25 rfl (laws_toRef.calls (x0 := x1) h4357)) ?_
                        rintro _ w4374 ⟨rfl, hn⟩
                        replace HM : Mem w [] w4374 [box b4362 52 [.int .i64 0, .slice none 0 0], own kCoin 123 u4354 t4352, own kCoin 123 u4285 t4336.2, box b4236 50 [.int .i64 x1.fTx, .int .i64 x1.fAt], box b4255 52 [.int .i64 t4251.fCode, u4253], own kCoin 123 u4253 t4251.fCoins, box b4287 52 [.int .i64 t4283.fCode, u4285]] := HM.call hn
                        refine ⟨Mem.suf (M := [box b4362 52 [.int .i64 0, .slice none 0 0], own kCoin 123 u4354 t4352]) HM, ?_⟩
                        have hS := Mem.suf (M := [box b4362 52 [.int .i64 0, .slice none 0 0], own kCoin 123 u4354 t4352]) HM
                        refine drw_any [4] (by kernel_rfl) rfl (.cons ?_ .nil)
                        refine br_does (l' := #[true, true, true, true, true, true, false]) rfl (guard_none rfl) rfl rfl (by kernel_rfl) (does_callk rfl callok26 rfl (impl_CoinAt.calls (x0 := t4352) (x1 := t4356) (HM.own_rd 1 rfl) h4359)) ?_
                        rintro _ w4375 ⟨u4360, rfl, hn⟩
                        replace HM : Mem w [] w4375 [own kCoin 123 u4360 t4358.fCoins, box b4362 52 [.int .i64 0, .slice none 0 0], own kCoin 123 u4354 t4352, own kCoin 123 u4285 t4336.2, box b4236 50 [.int .i64 x1.fTx, .int .i64 x1.fAt], box b4255 52 [.int .i64 t4251.fCode, u4253], own kCoin 123 u4253 t4251.fCoins, box b4287 52 [.int .i64 t4283.fCode, u4285]] := HM.call hn
                        refine ⟨Mem.suf (M := [own kCoin 123 u4360 t4358.fCoins, box b4362 52 [.int .i64 0, .slice none 0 0], own kCoin 123 u4354 t4352]) HM, ?_⟩
                        have hS := Mem.suf (M := [own kCoin 123 u4360 t4358.fCoins, box b4362 52 [.int .i64 0, .slice none 0 0], own kCoin 123 u4354 t4352]) HM
                        replace HM := HM.front 1 rfl rfl
                        refine drw_any [6] (by kernel_rfl) rfl (.cons ?_ .nil)
                        refine br_doesS (l' := #[true, true, true, true, true, true, true]) rfl (guard_none rfl) rfl (by kernel_rfl) (does_store (vs := [.int .i64 t4358.fCode, u4360]) (cs' := [.int .i64 t4358.fCode, u4360]) rfl rfl rfl rfl tsz52 (Ones.int (Ones.rd (HM.own_rd 1 rfl) Ones.nil)) rfl rfl HM) ?_
                        rintro w4376 HM
                        refine ⟨Mem.suf (M := [box b4362 52 [.int .i64 t4358.fCode, u4360], own kCoin 123 u4360 t4358.fCoins, own kCoin 123 u4354 t4352]) HM, ?_⟩
                        have hS := Mem.suf (M := [box b4362 52 [.int .i64 t4358.fCode, u4360], own kCoin 123 u4360 t4358.fCoins, own kCoin 123 u4354 t4352]) HM
                        refine drw_done (by kernel_rfl) ?_
                        replace HM := (HM.front 2 rfl rfl).drop
                        replace HM := (HM.front 3 rfl rfl).drop
                        replace HM := HM.front 1 rfl rfl
                        replace HM := HM.front 1 rfl rfl
                        replace HM := HM.front 2 rfl rfl
                        replace HM := HM.front 5 rfl rfl
                        replace HM := HM.front 5 rfl rfl
                        replace HM := HM.front 5 rfl rfl
                        exact at_meet [(6, .pointer (some ⟨b4255, 0, none⟩)), (8, .pointer (some ⟨b4287, 0, none⟩)), (10, .int .i64 t4336.1), (12, .pointer (some ⟨b4362, 0, none⟩))] ⟨_, _, rfl, HM⟩ (Sub.cons rfl (Sub.cons rfl (Sub.cons rfl (Sub.cons rfl Sub.nil))))
                    · skip
                      refine br_does (l' := #[true, false, true, false, false, true, false]) rfl (guard_none rfl) rfl rfl (by kernel_rfl) (does_alloc (cs := [.int .i64 0, .slice none 0 0]) rfl tz52 rfl HM) ?_
                      rintro _ w4377 ⟨b4362, rfl, HM⟩
                      refine ⟨Mem.suf (M := [box b4362 52 [.int .i64 0, .slice none 0 0]]) HM, ?_⟩
                      have hS := Mem.suf (M := [box b4362 52 [.int .i64 0, .slice none 0 0]]) HM
                      refine drw_any [1] (by kernel_rfl) rfl (.cons ?_ .nil)
                      refine br_does (l' := #[true, true, true, false, false, true, false]) rfl (guard_none rfl) rfl rfl (by kernel_rfl) (does_callk rfl callok20 rfl (laws_toCoinS.calls (x0 := x0) (HM.rd hp0) h4353)) ?_
                      rintro u4354 w4378 ⟨_, rfl, hn⟩
                      replace HM : Mem w [] w4378 [own kCoin 123 u4354 t4352, box b4362 52 [.int .i64 0, .slice none 0 0], own kCoin 123 u4285 t4336.2, box b4236 50 [.int .i64 x1.fTx, .int .i64 x1.fAt], box b4255 52 [.int .i64 t4251.fCode, u4253], own kCoin 123 u4253 t4251.fCoins, box b4287 52 [.int .i64 t4283.fCode, u4285]] := HM.call hn
                      refine ⟨Mem.suf (M := [own kCoin 123 u4354 t4352, box b4362 52 [.int .i64 0, .slice none 0 0]]) HM, ?_⟩
                      have hS := Mem.suf (M := [own kCoin 123 u4354 t4352, box b4362 52 [.int .i64 0, .slice none 0 0]]) HM
                      refine drw_any [3] (by kernel_rfl) rfl (.cons ?_ .nil)
                      refine br_does (l' := #[true, true, true, true, false, true, false]) rfl (guard_none rfl) rfl rfl (by kernel_rfl) (does_callk rfl callok25 rfl (laws_toRef.calls (x0 := x1) h4357)) ?_
                      rintro _ w4379 ⟨rfl, hn⟩
                      replace HM : Mem w [] w4379 [own kCoin 123 u4354 t4352, box b4362 52 [.int .i64 0, .slice none 0 0], own kCoin 123 u4285 t4336.2, box b4236 50 [.int .i64 x1.fTx, .int .i64 x1.fAt], box b4255 52 [.int .i64 t4251.fCode, u4253], own kCoin 123 u4253 t4251.fCoins, box b4287 52 [.int .i64 t4283.fCode, u4285]] := HM.call hn
                      refine ⟨Mem.suf (M := [own kCoin 123 u4354 t4352, box b4362 52 [.int .i64 0, .slice none 0 0]]) HM, ?_⟩
                      have hS := Mem.suf (M := [own kCoin 123 u4354 t4352, box b4362 52 [.int .i64 0, .slice none 0 0]]) HM
                      refine drw_any [4] (by kernel_rfl) rfl (.cons ?_ .nil)
                      refine br_does (l' := #[true, true, true, true, true, true, false]) rfl (guard_none rfl) rfl rfl (by kernel_rfl) (does_callk rfl callok26 rfl (impl_CoinAt.calls (x0 := t4352) (x1 := t4356) (HM.own_rd 0 rfl) h4359)) ?_
                      rintro _ w4380 ⟨u4360, rfl, hn⟩
                      replace HM : Mem w [] w4380 [own kCoin 123 u4360 t4358.fCoins, own kCoin 123 u4354 t4352, box b4362 52 [.int .i64 0, .slice none 0 0], own kCoin 123 u4285 t4336.2, box b4236 50 [.int .i64 x1.fTx, .int .i64 x1.fAt], box b4255 52 [.int .i64 t4251.fCode, u4253], own kCoin 123 u4253 t4251.fCoins, box b4287 52 [.int .i64 t4283.fCode, u4285]] := HM.call hn
                      refine ⟨Mem.suf (M := [own kCoin 123 u4360 t4358.fCoins, own kCoin 123 u4354 t4352, box b4362 52 [.int .i64 0, .slice none 0 0]]) HM, ?_⟩
                      have hS := Mem.suf (M := [own kCoin 123 u4360 t4358.fCoins, own kCoin 123 u4354 t4352, box b4362 52 [.int .i64 0, .slice none 0 0]]) HM
                      replace HM := HM.front 2 rfl rfl
                      refine drw_any [6] (by kernel_rfl) rfl (.cons ?_ .nil)
                      refine br_doesS (l' := #[true, true, true, true, true, true, true]) rfl (guard_none rfl) rfl (by kernel_rfl) (does_store (vs := [.int .i64 t4358.fCode, u4360]) (cs' := [.int .i64 t4358.fCode, u4360]) rfl rfl rfl rfl tsz52 (Ones.int (Ones.rd (HM.own_rd 1 rfl) Ones.nil)) rfl rfl HM) ?_
                      rintro w4381 HM
                      refine ⟨Mem.suf (M := [box b4362 52 [.int .i64 t4358.fCode, u4360], own kCoin 123 u4360 t4358.fCoins, own kCoin 123 u4354 t4352]) HM, ?_⟩
                      have hS := Mem.suf (M := [box b4362 52 [.int .i64 t4358.fCode, u4360], own kCoin 123 u4360 t4358.fCoins, own kCoin 123 u4354 t4352]) HM
                      refine drw_done (by kernel_rfl) ?_
                      replace HM := (HM.front 2 rfl rfl).drop
                      replace HM := (HM.front 3 rfl rfl).drop
                      replace HM := HM.front 1 rfl rfl
                      replace HM := HM.front 1 rfl rfl
                      replace HM := HM.front 2 rfl rfl
                      replace HM := HM.front 5 rfl rfl
                      replace HM := HM.front 5 rfl rfl
                      replace HM := HM.front 5 rfl rfl
                      exact at_meet [(6, .pointer (some ⟨b4255, 0, none⟩)), (8, .pointer (some ⟨b4287, 0, none⟩)), (10, .int .i64 t4336.1), (12, .pointer (some ⟨b4362, 0, none⟩))] ⟨_, _, rfl, HM⟩ (Sub.cons rfl (Sub.cons rfl (Sub.cons rfl (Sub.cons rfl Sub.nil))))
                  · rintro _ w4382 ⟨u4360, b4362, rfl, HM⟩
                    refine at_then ?_
                    refine run_seq ?_
                    refine run_seq ?_
                    obtain ⟨t4386, h4387, H⟩ := bind_some H
                    refine run_region rfl ?_
                    refine ops_ex rfl (guard_none rfl) rfl rfl (ex_loadN (cs := [(.int .i64 t4358.fCode), u4360]) rfl rfl Try.underlying52 rfl tsz52 rfl ((HM.box_at 4 rfl).sub 0 2 rfl)) ?_
                    refine ops_ex rfl (guard_none rfl) rfl rfl (ex_loadN (cs := [(.int .i64 t4251.fCode), u4253]) rfl rfl Try.underlying52 rfl tsz52 rfl ((HM.box_at 0 rfl).sub 0 2 rfl)) ?_
                    refine ops_does rfl (guard_none rfl) rfl rfl (does_callk rfl callok27 rfl (laws_eqCoinsResult.calls (x0 := t4358) (x1 := t4251) (HM.own_rd 5 rfl) (HM.own_rd 1 rfl) h4387)) ?_
                    rintro _ w4388 ⟨rfl, hn⟩
                    replace HM : Mem w [] w4388 [box b4255 52 [.int .i64 t4251.fCode, u4253], own kCoin 123 u4253 t4251.fCoins, box b4287 52 [.int .i64 t4283.fCode, u4285], own kCoin 123 u4285 t4336.2, box b4362 52 [.int .i64 t4358.fCode, u4360], own kCoin 123 u4360 t4358.fCoins] := HM.call hn
                    refine ops_ex rfl (guard_none rfl) rfl rfl (ex_not rfl rfl) ?_
                    refine ops_nil ?_
                    refine at_then ?_
                    refine run_cond (b := !t4386) rfl (fun hb4389 => ?_) (fun hb4389 => ?_)
                    · replace H := cond_t hb4389 H
                      refine run_seq ?_
                      refine run_region rfl ?_
                      refine ops_ex rfl (guard_none rfl) rfl rfl (ex_assign rfl rfl) ?_
                      refine ops_nil ?_
                      refine at_then ?_
                      refine run_ret ?_
                      refine at_then_ret ?_
                      replace HM := (HM.front 0 rfl rfl).drop
                      replace HM := (HM.front 0 rfl rfl).drop
                      replace HM := (HM.front 0 rfl rfl).drop
                      replace HM := (HM.front 0 rfl rfl).drop
                      replace HM := (HM.front 0 rfl rfl).drop
                      replace HM := (HM.front 0 rfl rfl).drop
                      have hR := Option.some.inj H
                      subst hR
                      exact at_ret1 rfl rfl ⟨_, rfl, rfl, HM⟩
                    · replace H := cond_f hb4389 H
                      refine run_skip ?_
                      refine at_then ?_
                      refine run_seq ?_
                      refine run_region rfl ?_
                      refine ops_ex rfl (guard_none rfl) rfl rfl (ex_assign rfl rfl) ?_
                      refine ops_nil ?_
                      refine at_then ?_
                      refine run_seq ?_
                      obtain ⟨t4390, h4391, H⟩ := bind_some H
                      refine run_region rfl ?_
                      refine ops_ex rfl (guard_none rfl) rfl rfl (ex_loadN (cs := [(.int .i64 t4283.fCode), u4285]) rfl rfl Try.underlying52 rfl tsz52 rfl ((HM.box_at 2 rfl).sub 0 2 rfl)) ?_
                      refine ops_ex rfl (guard_none rfl) rfl rfl (ex_move rfl rfl) ?_
                      refine ops_does rfl (guard_none rfl) rfl rfl (does_callk rfl callok30 rfl (laws_heldCoinsResult.calls (x0 := (⟨t4283.fCode, t4336.2⟩ : CoinsResult)) (x1 := 1) (HM.own_rd 3 rfl) h4391)) ?_
                      rintro _ w4392 ⟨rfl, hn⟩
                      replace HM : Mem w [] w4392 [box b4255 52 [.int .i64 t4251.fCode, u4253], own kCoin 123 u4253 t4251.fCoins, box b4287 52 [.int .i64 t4283.fCode, u4285], own kCoin 123 u4285 t4336.2, box b4362 52 [.int .i64 t4358.fCode, u4360], own kCoin 123 u4360 t4358.fCoins] := HM.call hn
                      refine ops_ex rfl (guard_none rfl) rfl rfl (ex_assign rfl rfl) ?_
                      refine ops_nil ?_
                      refine at_then ?_
                      refine run_seq ?_
                      refine run_seq ?_
                      refine run_region rfl ?_
                      refine ops_ex rfl (guard_none rfl) rfl rfl (ex_move rfl rfl) ?_
                      refine ops_ex rfl (guard_none rfl) rfl rfl (ex_lss rfl rfl rfl) ?_
                      refine ops_nil ?_
                      refine at_then ?_
                      refine run_cond (b := (decide (t4390 < 0))) rfl (fun hb4394 => ?_) (fun hb4394 => ?_)
                      · replace H := cond_t hb4394 H
                        refine run_seq ?_
                        refine run_region rfl ?_
                        refine ops_ex rfl (guard_none rfl) rfl rfl (ex_assign rfl rfl) ?_
                        refine ops_nil ?_
                        refine at_then ?_
                        refine run_ret ?_
                        refine at_then_ret ?_
                        replace HM := (HM.front 0 rfl rfl).drop
                        replace HM := (HM.front 0 rfl rfl).drop
                        replace HM := (HM.front 0 rfl rfl).drop
                        replace HM := (HM.front 0 rfl rfl).drop
                        replace HM := (HM.front 0 rfl rfl).drop
                        replace HM := (HM.front 0 rfl rfl).drop
                        have hR := Option.some.inj H
                        subst hR
                        exact at_ret1 rfl rfl ⟨_, rfl, rfl, HM⟩
                      · replace H := cond_f hb4394 H
                        refine run_skip ?_
                        refine at_then ?_
                        refine run_seq ?_
                        refine run_seq ?_
                        refine run_region rfl ?_
                        refine ops_ex rfl (guard_none rfl) rfl rfl (ex_move rfl rfl) ?_
                        refine ops_ex rfl (guard_none rfl) rfl rfl (ex_move rfl rfl) ?_
                        refine ops_ex rfl (guard_none rfl) rfl rfl (ex_neq rfl rfl rfl) ?_
                        refine ops_nil ?_
                        refine at_then ?_
                        refine run_cond (b := (t4390 != t4336.1)) rfl (fun hb4395 => ?_) (fun hb4395 => ?_)
                        · replace H := cond_t hb4395 H
                          refine run_seq ?_
                          refine run_region rfl ?_
                          refine ops_ex rfl (guard_none rfl) rfl rfl (ex_assign rfl rfl) ?_
                          refine ops_nil ?_
                          refine at_then ?_
                          refine run_ret ?_
                          refine at_then_ret ?_
                          replace HM := (HM.front 0 rfl rfl).drop
                          replace HM := (HM.front 0 rfl rfl).drop
                          replace HM := (HM.front 0 rfl rfl).drop
                          replace HM := (HM.front 0 rfl rfl).drop
                          replace HM := (HM.front 0 rfl rfl).drop
                          replace HM := (HM.front 0 rfl rfl).drop
                          have hR := Option.some.inj H
                          subst hR
                          exact at_ret1 rfl rfl ⟨_, rfl, rfl, HM⟩
                        · replace H := cond_f hb4395 H
                          refine run_skip ?_
                          refine at_then ?_
                          refine run_seq ?_
                          refine run_region rfl ?_
                          refine ops_ex rfl (guard_none rfl) rfl rfl (ex_assign rfl rfl) ?_
                          refine ops_nil ?_
                          refine at_then ?_
                          refine run_ret ?_
                          replace HM := (HM.front 0 rfl rfl).drop
                          replace HM := (HM.front 0 rfl rfl).drop
                          replace HM := (HM.front 0 rfl rfl).drop
                          replace HM := (HM.front 0 rfl rfl).drop
                          replace HM := (HM.front 0 rfl rfl).drop
                          replace HM := (HM.front 0 rfl rfl).drop
                          have hR := Option.some.inj H
                          subst hR
                          exact at_ret1 rfl rfl ⟨_, rfl, rfl, HM⟩
end Go.Proofs.Ytigojhglkilodaa.Zk
