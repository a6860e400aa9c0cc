/- What functions of the program compute, each as a plain function, and that they do. Conditions: as each theorem states them. -/
import Derived.Test.YtigojhglkilodaaTakeCoinsZkF6
namespace Go.Proofs.Ytigojhglkilodaa.Zk
open Go Go.RowKit Go.IntWalk Go.Proofs
set_option linter.unusedVariables false
set_option linter.unusedSimpArgs false
set_option maxRecDepth 100000
set_option maxHeartbeats 4000000
def laws_heldCoinsResult.f (k : Nat) (x0 : CoinsResult) (x1 : Int) : Option Int := ((laws_heldCoinS.f k x0.fCoins x1).bind fun t4875 => (bif (decide (t4875 < 0)) then some (-1) else some t4875))
theorem laws_heldCoinsResult.calls {k : Nat} {x0 : CoinsResult} {x1 : Int} {p0_0 : Value} {w : World} (hp0_0 : RdS kCoin w p0_0 x0.fCoins) {r : Int} (H : laws_heldCoinsResult.f k x0 x1 = some r) :
    Calls Try.prog 30 ([.agg #[(.int .i64 x0.fCode), p0_0], .int .i64 x1] : List Value).toArray w (fun e w_ => ∃ v, e = .returned v ∧ v = (.int .i64 r) ∧ Mem w [] w_ []) := by
  have HM := Mem.start w
  refine calls_run (N := 12) Try.func30 rfl rfl rfl rfl ?_
  unfold laws_heldCoinsResult.f at H
  refine run_seq ?_
  refine run_region rfl ?_
  refine ops_does rfl (guard_none rfl) rfl rfl (does_box (cs := [.int .i64 x0.fCode, p0_0]) rfl rfl rfl HM) ?_
  rintro _ w4874 ⟨b4871, rfl, HM⟩
  refine ops_ex rfl (guard_none rfl) rfl rfl (ex_assign rfl rfl) ?_
  refine ops_nil ?_
  refine at_then ?_
  refine run_seq ?_
  obtain ⟨t4875, h4876, H⟩ := bind_some H
  refine run_region rfl ?_
  refine ops_ex rfl (guard_none rfl) rfl rfl (ex_fieldAddr (off' := 1) rfl rfl Try.underlying52 rfl tsz44 rfl) ?_
  refine ops_ex rfl (guard_none rfl) rfl rfl (ex_load1 rfl rfl Try.underlying44 rfl ((HM.box_at 0 rfl) 1 _ rfl)) ?_
  refine ops_ex rfl (guard_none rfl) rfl rfl (ex_move rfl rfl) ?_
  refine ops_does rfl (guard_none rfl) rfl rfl (does_callk rfl callok85 rfl (laws_heldCoinS.calls (x0 := x0.fCoins) (x1 := x1) (HM.rd hp0_0) h4876)) ?_
  rintro _ w4877 ⟨rfl, hn⟩
  replace HM : Mem w [] w4877 [box b4871 52 [.int .i64 x0.fCode, p0_0]] := HM.call hn
  refine ops_ex rfl (guard_none rfl) rfl rfl (ex_assign rfl rfl) ?_
  refine ops_nil ?_
  refine at_then ?_
  refine run_seq ?_
  refine run_seq ?_
  refine run_region rfl ?_
  refine ops_ex rfl (guard_none rfl) rfl rfl (ex_move rfl rfl) ?_
  refine ops_ex rfl (guard_none rfl) rfl rfl (ex_lss rfl rfl rfl) ?_
  refine ops_nil ?_
  refine at_then ?_
  refine run_cond (b := (decide (t4875 < 0))) rfl (fun hb4878 => ?_) (fun hb4878 => ?_)
  · replace H := cond_t hb4878 H
    refine run_seq ?_
    refine run_region rfl ?_
    refine ops_ex rfl (guard_none rfl) rfl rfl (ex_assign rfl rfl) ?_
    refine ops_nil ?_
    refine at_then ?_
    refine run_ret ?_
    refine at_then_ret ?_
    replace HM := (HM.front 0 rfl rfl).drop
    have hR := Option.some.inj H
    subst hR
    exact at_ret1 rfl rfl ⟨_, rfl, rfl, HM⟩
  · replace H := cond_f hb4878 H
    refine run_skip ?_
    refine at_then ?_
    refine run_seq ?_
    refine run_region rfl ?_
    refine ops_ex rfl (guard_none rfl) rfl rfl (ex_move rfl rfl) ?_
    refine ops_ex rfl (guard_none rfl) rfl rfl (ex_assign rfl rfl) ?_
    refine ops_nil ?_
    refine at_then ?_
    refine run_ret ?_
    replace HM := (HM.front 0 rfl rfl).drop
    have hR := Option.some.inj H
    subst hR
    exact at_ret1 rfl rfl ⟨_, rfl, rfl, HM⟩

def laws_FnExactTakeCoins.f (k : Nat) (x0 : List Coin) (x1 : List Ref) : Option Bool := ((laws_szCoinS.f k x0 1048576).bind fun t4911 => (bif (decide (t4911 < 0)) then some true else ((laws_szRefS.f k x1 t4911).bind fun t4916 => (bif (decide (t4916 < 0)) then some true else ((laws_toCoinS.f k x0).bind fun t4921 => ((laws_toRefS.f k x1).bind fun t4925 => ((spec_TakeCoins.f k t4921 t4925).bind fun t4929 => ((laws_toCoinS.f k x0).bind fun t4941 => ((laws_toRefS.f k x1).bind fun t4946 => ((impl_TakeCoins.f k t4941 t4946).bind fun t4951 => ((laws_eqCoinsResult.f k t4951 t4929).bind fun t4964 => (bif !t4964 then some false else ((laws_toCoinS.f k x0).bind fun t4975 => ((laws_eqCoinS.f k t4941 t4975).bind fun t4979 => (bif !t4979 then some false else ((laws_toRefS.f k x1).bind fun t4991 => ((laws_eqRefS.f k t4946 t4991).bind fun t4995 => (bif !t4995 then some false else ((laws_markCoinS.f k t4941 1).bind fun t5000 => ((laws_markRefS.f k t4946 t5000.1).bind fun t5009 => ((bif (!(decide (t5009.1 < 0))) then laws_eqCoinsResult.f k t4951 t4929 else some default).bind fun t5021 => (bif ((decide (t5009.1 < 0)) || (!t5021)) then some false else ((laws_markCoinsResult.f k t4951 1).bind fun t5028 => ((laws_heldCoinsResult.f k (⟨t4951.fCode, t5028.2⟩ : CoinsResult) 1).bind fun t5037 => (bif (decide (t5037 < 0)) then some false else (bif (t5037 != t5028.1) then some false else ((laws_toCoinS.f k x0).bind fun t5044 => ((laws_toRefS.f k x1).bind fun t5048 => ((impl_TakeCoins.f k t5044 t5048).bind fun t5052 => ((laws_eqCoinsResult.f k t5052 t4929).bind fun t5067 => (bif !t5067 then some false else ((laws_heldCoinsResult.f k (⟨t4951.fCode, t5028.2⟩ : CoinsResult) 1).bind fun t5071 => (bif (decide (t5071 < 0)) then some false else (bif (t5071 != t5028.1) then some false else some true))))))))))))))))))))))))))))))))))
theorem laws_FnExactTakeCoins.calls {k : Nat} {x0 : List Coin} {x1 : List Ref} {p0 : Value} {p1 : Value} {w : World} (hp0 : RdS kCoin w p0 x0) (hp1 : RdS kRef w p1 x1) {r : Bool} (H : laws_FnExactTakeCoins.f k x0 x1 = some r) :
    Calls Try.prog 7 ([p0, p1] : List Value).toArray w (fun e w_ => ∃ v, e = .returned v ∧ v = (.bool r) ∧ Mem w [] w_ []) := by
  have HM := Mem.start w
  refine calls_run (N := 92) Try.func7 rfl rfl rfl rfl ?_
  unfold laws_FnExactTakeCoins.f at H
  refine run_seq ?_
  refine run_region rfl ?_
  refine ops_ex rfl (guard_none rfl) rfl rfl (ex_assign rfl rfl) ?_
  refine ops_nil ?_
  refine at_then ?_
  refine run_seq ?_
  refine run_region rfl ?_
  refine ops_ex rfl (guard_none rfl) rfl rfl (ex_assign rfl rfl) ?_
  refine ops_nil ?_
  refine at_then ?_
  refine run_seq ?_
  obtain ⟨t4911, h4912, H⟩ := bind_some H
  refine run_region rfl ?_
  refine ops_ex rfl (guard_none rfl) rfl rfl (ex_move rfl rfl) ?_
  refine ops_ex rfl (guard_none rfl) rfl rfl (ex_move rfl rfl) ?_
  refine ops_does rfl (guard_none rfl) rfl rfl (does_callk rfl callok18 rfl (laws_szCoinS.calls (x0 := x0) (x1 := 1048576) (HM.rd hp0) h4912)) ?_
  rintro _ w4913 ⟨rfl, hn⟩
  replace HM : Mem w [] w4913 [] := HM.call hn
  refine ops_ex rfl (guard_none rfl) rfl rfl (ex_assign rfl rfl) ?_
  refine ops_nil ?_
  refine at_then ?_
  refine run_seq ?_
  refine run_seq ?_
  refine run_region rfl ?_
  refine ops_ex rfl (guard_none rfl) rfl rfl (ex_move rfl rfl) ?_
  refine ops_ex rfl (guard_none rfl) rfl rfl (ex_lss rfl rfl rfl) ?_
  refine ops_nil ?_
  refine at_then ?_
  refine run_cond (b := (decide (t4911 < 0))) rfl (fun hb4915 => ?_) (fun hb4915 => ?_)
  · replace H := cond_t hb4915 H
    refine run_seq ?_
    refine run_region rfl ?_
    refine ops_ex rfl (guard_none rfl) rfl rfl (ex_assign rfl rfl) ?_
    refine ops_nil ?_
    refine at_then ?_
    refine run_ret ?_
    refine at_then_ret ?_
    have hR := Option.some.inj H
    subst hR
    exact at_ret1 rfl rfl ⟨_, rfl, rfl, HM⟩
  · replace H := cond_f hb4915 H
    refine run_skip ?_
    refine at_then ?_
    refine run_seq ?_
    obtain ⟨t4916, h4917, H⟩ := bind_some H
    refine run_region rfl ?_
    refine ops_ex rfl (guard_none rfl) rfl rfl (ex_move rfl rfl) ?_
    refine ops_ex rfl (guard_none rfl) rfl rfl (ex_move rfl rfl) ?_
    refine ops_does rfl (guard_none rfl) rfl rfl (does_callk rfl callok44 rfl (laws_szRefS.calls (x0 := x1) (x1 := t4911) (HM.rd hp1) h4917)) ?_
    rintro _ w4918 ⟨rfl, hn⟩
    replace HM : Mem w [] w4918 [] := HM.call hn
    refine ops_ex rfl (guard_none rfl) rfl rfl (ex_assign rfl rfl) ?_
    refine ops_nil ?_
    refine at_then ?_
    refine run_seq ?_
    refine run_seq ?_
    refine run_region rfl ?_
    refine ops_ex rfl (guard_none rfl) rfl rfl (ex_move rfl rfl) ?_
    refine ops_ex rfl (guard_none rfl) rfl rfl (ex_lss rfl rfl rfl) ?_
    refine ops_nil ?_
    refine at_then ?_
    refine run_cond (b := (decide (t4916 < 0))) rfl (fun hb4920 => ?_) (fun hb4920 => ?_)
    · replace H := cond_t hb4920 H
      refine run_seq ?_
      refine run_region rfl ?_
      refine ops_ex rfl (guard_none rfl) rfl rfl (ex_assign rfl rfl) ?_
      refine ops_nil ?_
      refine at_then ?_
      refine run_ret ?_
      refine at_then_ret ?_
      have hR := Option.some.inj H
      subst hR
      exact at_ret1 rfl rfl ⟨_, rfl, rfl, HM⟩
    · replace H := cond_f hb4920 H
      refine run_skip ?_
      refine at_then ?_
      refine run_seq ?_
      obtain ⟨t4921, h4922, H⟩ := bind_some H
      obtain ⟨t4925, h4926, H⟩ := bind_some H
      obtain ⟨t4929, h4930, H⟩ := bind_some H
      refine run_region rfl ?_
      refine ops_ex rfl (guard_none rfl) rfl rfl (ex_move rfl rfl) ?_
      refine ops_does rfl (guard_none rfl) rfl rfl (does_callk rfl callok20 rfl (laws_toCoinS.calls (x0 := x0) (HM.rd hp0) h4922)) ?_
      rintro u4923 w4936 ⟨_, rfl, hn⟩
      replace HM : Mem w [] w4936 [own kCoin 123 u4923 t4921] := HM.call hn
      refine ops_ex rfl (guard_none rfl) rfl rfl (ex_move rfl rfl) ?_
      refine ops_does rfl (guard_none rfl) rfl rfl (does_callk rfl callok46 rfl (laws_toRefS.calls (x0 := x1) (HM.rd hp1) h4926)) ?_
      rintro u4927 w4937 ⟨_, rfl, hn⟩
      replace HM : Mem w [] w4937 [own kRef 54 u4927 t4925, own kCoin 123 u4923 t4921] := HM.call hn
      refine ops_does rfl (guard_none rfl) rfl rfl (does_callk rfl callok45 rfl (spec_TakeCoins.calls (x0 := t4921) (x1 := t4925) (HM.own_rd 1 rfl) (HM.own_rd 0 rfl) h4930)) ?_
      rintro _ w4938 ⟨u4931, rfl, hn⟩
      replace HM : Mem w [] w4938 [own kCoin 123 u4931 t4929.fCoins, own kRef 54 u4927 t4925, own kCoin 123 u4923 t4921] := HM.call hn
      refine ops_does rfl (guard_none rfl) rfl rfl (does_alloc (cs := [.int .i64 0, .slice none 0 0]) rfl tz52 rfl HM) ?_
      rintro _ w4939 ⟨b4933, rfl, HM⟩
      refine ops_doesS rfl (guard_none rfl) rfl (does_store (vs := [.int .i64 t4929.fCode, u4931]) (cs' := [.int .i64 t4929.fCode, u4931]) rfl rfl rfl rfl tsz52 (Ones.int (Ones.rd (HM.own_rd 1 rfl) Ones.nil)) rfl rfl HM) ?_
      rintro w4940 HM
      refine ops_nil ?_
      refine at_then ?_
      refine run_seq ?_
      obtain ⟨t4941, h4942, H⟩ := bind_some H
      refine run_region rfl ?_
      refine ops_ex rfl (guard_none rfl) rfl rfl (ex_move rfl rfl) ?_
      refine ops_does rfl (guard_none rfl) rfl rfl (does_callk rfl callok20 rfl (laws_toCoinS.calls (x0 := x0) (HM.rd hp0) h4942)) ?_
      rintro u4943 w4945 ⟨_, rfl, hn⟩
      replace HM : Mem w [] w4945 [own kCoin 123 u4943 t4941, box b4933 52 [.int .i64 t4929.fCode, u4931], own kCoin 123 u4931 t4929.fCoins, own kRef 54 u4927 t4925, own kCoin 123 u4923 t4921] := HM.call hn
      refine ops_ex rfl (guard_none rfl) rfl rfl (ex_assign rfl rfl) ?_
      refine ops_nil ?_
      refine at_then ?_
      refine run_seq ?_
      obtain ⟨t4946, h4947, H⟩ := bind_some H
      refine run_region rfl ?_
      refine ops_ex rfl (guard_none rfl) rfl rfl (ex_move rfl rfl) ?_
      refine ops_does rfl (guard_none rfl) rfl rfl (does_callk rfl callok46 rfl (laws_toRefS.calls (x0 := x1) (HM.rd hp1) h4947)) ?_
      rintro u4948 w4950 ⟨_, rfl, hn⟩
      replace HM : Mem w [] w4950 [own kRef 54 u4948 t4946, own kCoin 123 u4943 t4941, box b4933 52 [.int .i64 t4929.fCode, u4931], own kCoin 123 u4931 t4929.fCoins, own kRef 54 u4927 t4925, own kCoin 123 u4923 t4921] := HM.call hn
      refine ops_ex rfl (guard_none rfl) rfl rfl (ex_assign rfl rfl) ?_
      refine ops_nil ?_
      refine at_then ?_
      refine run_seq ?_
      obtain ⟨t4951, h4952, H⟩ := bind_some H
      refine run_region rfl ?_
      refine ops_ex rfl (guard_none rfl) rfl rfl (ex_move rfl rfl) ?_
      refine ops_ex rfl (guard_none rfl) rfl rfl (ex_move rfl rfl) ?_
      refine ops_does rfl (guard_none rfl) rfl rfl (does_callk rfl callok47 rfl (impl_TakeCoins.calls (x0 := t4941) (x1 := t4946) (HM.own_rd 1 rfl) (HM.own_rd 0 rfl) h4952)) ?_
      rintro _ w4958 ⟨u4953, rfl, hn⟩
      replace HM : Mem w [] w4958 [own kCoin 123 u4953 t4951.fCoins, own kRef 54 u4948 t4946, own kCoin 123 u4943 t4941, box b4933 52 [.int .i64 t4929.fCode, u4931], own kCoin 123 u4931 t4929.fCoins, own kRef 54 u4927 t4925, own kCoin 123 u4923 t4921] := HM.call hn
      refine ops_does rfl (guard_none rfl) rfl rfl (does_alloc (cs := [.int .i64 0, .slice none 0 0]) rfl tz52 rfl HM) ?_
      rintro _ w4959 ⟨b4955, rfl, HM⟩
      refine ops_doesS rfl (guard_none rfl) rfl (does_store (vs := [.int .i64 t4951.fCode, u4953]) (cs' := [.int .i64 t4951.fCode, u4953]) rfl rfl rfl rfl tsz52 (Ones.int (Ones.rd (HM.own_rd 1 rfl) Ones.nil)) rfl rfl HM) ?_
      rintro w4960 HM
      refine ops_nil ?_
      refine at_then ?_
      refine run_seq ?_
      refine run_seq ?_
      obtain ⟨t4964, h4965, H⟩ := bind_some H
      refine run_region rfl ?_
      refine ops_ex rfl (guard_none rfl) rfl rfl (ex_loadN (cs := [(.int .i64 t4951.fCode), u4953]) rfl rfl Try.underlying52 rfl tsz52 rfl ((HM.box_at 0 rfl).sub 0 2 rfl)) ?_
      refine ops_ex rfl (guard_none rfl) rfl rfl (ex_loadN (cs := [(.int .i64 t4929.fCode), u4931]) rfl rfl Try.underlying52 rfl tsz52 rfl ((HM.box_at 4 rfl).sub 0 2 rfl)) ?_
      refine ops_does rfl (guard_none rfl) rfl rfl (does_callk rfl callok27 rfl (laws_eqCoinsResult.calls (x0 := t4951) (x1 := t4929) (HM.own_rd 1 rfl) (HM.own_rd 5 rfl) h4965)) ?_
      rintro _ w4966 ⟨rfl, hn⟩
      replace HM : Mem w [] w4966 [box b4955 52 [.int .i64 t4951.fCode, u4953], own kCoin 123 u4953 t4951.fCoins, own kRef 54 u4948 t4946, own kCoin 123 u4943 t4941, box b4933 52 [.int .i64 t4929.fCode, u4931], own kCoin 123 u4931 t4929.fCoins, own kRef 54 u4927 t4925, own kCoin 123 u4923 t4921] := HM.call hn
      refine ops_ex rfl (guard_none rfl) rfl rfl (ex_not rfl rfl) ?_
      refine ops_nil ?_
      refine at_then ?_
      refine run_cond (b := !t4964) rfl (fun hb4967 => ?_) (fun hb4967 => ?_)
      · replace H := cond_t hb4967 H
        refine run_seq ?_
        refine run_region rfl ?_
        refine ops_ex rfl (guard_none rfl) rfl rfl (ex_assign rfl rfl) ?_
        refine ops_nil ?_
        refine at_then ?_
        refine run_ret ?_
        refine at_then_ret ?_
        replace HM := (HM.front 0 rfl rfl).drop
        replace HM := (HM.front 0 rfl rfl).drop
        replace HM := (HM.front 0 rfl rfl).drop
        replace HM := (HM.front 0 rfl rfl).drop
        replace HM := (HM.front 0 rfl rfl).drop
        replace HM := (HM.front 0 rfl rfl).drop
        replace HM := (HM.front 0 rfl rfl).drop
        replace HM := (HM.front 0 rfl rfl).drop
        have hR := Option.some.inj H
        subst hR
        exact at_ret1 rfl rfl ⟨_, rfl, rfl, HM⟩
      · replace H := cond_f hb4967 H
        refine run_skip ?_
        refine at_then ?_
        refine run_seq ?_
        refine run_seq ?_
        obtain ⟨t4975, h4976, H⟩ := bind_some H
        obtain ⟨t4979, h4980, H⟩ := bind_some H
        refine run_region rfl ?_
        refine ops_ex rfl (guard_none rfl) rfl rfl (ex_move rfl rfl) ?_
        refine ops_ex rfl (guard_none rfl) rfl rfl (ex_move rfl rfl) ?_
        refine ops_does rfl (guard_none rfl) rfl rfl (does_callk rfl callok20 rfl (laws_toCoinS.calls (x0 := x0) (HM.rd hp0) h4976)) ?_
        rintro u4977 w4981 ⟨_, rfl, hn⟩
        replace HM : Mem w [] w4981 [own kCoin 123 u4977 t4975, box b4955 52 [.int .i64 t4951.fCode, u4953], own kCoin 123 u4953 t4951.fCoins, own kRef 54 u4948 t4946, own kCoin 123 u4943 t4941, box b4933 52 [.int .i64 t4929.fCode, u4931], own kCoin 123 u4931 t4929.fCoins, own kRef 54 u4927 t4925, own kCoin 123 u4923 t4921] := HM.call hn
        refine ops_does rfl (guard_none rfl) rfl rfl (does_callk rfl callok23 rfl (laws_eqCoinS.calls (x0 := t4941) (x1 := t4975) (HM.own_rd 4 rfl) (HM.own_rd 0 rfl) h4980)) ?_
        rintro _ w4982 ⟨rfl, hn⟩
        replace HM : Mem w [] w4982 [own kCoin 123 u4977 t4975, box b4955 52 [.int .i64 t4951.fCode, u4953], own kCoin 123 u4953 t4951.fCoins, own kRef 54 u4948 t4946, own kCoin 123 u4943 t4941, box b4933 52 [.int .i64 t4929.fCode, u4931], own kCoin 123 u4931 t4929.fCoins, own kRef 54 u4927 t4925, own kCoin 123 u4923 t4921] := HM.call hn
        refine ops_ex rfl (guard_none rfl) rfl rfl (ex_not rfl rfl) ?_
        refine ops_nil ?_
        refine at_then ?_
        refine run_cond (b := !t4979) rfl (fun hb4983 => ?_) (fun hb4983 => ?_)
        · replace H := cond_t hb4983 H
          refine run_seq ?_
          refine run_region rfl ?_
          refine ops_ex rfl (guard_none rfl) rfl rfl (ex_assign rfl rfl) ?_
          refine ops_nil ?_
          refine at_then ?_
          refine run_ret ?_
          refine at_then_ret ?_
          replace HM := (HM.front 0 rfl rfl).drop
          replace HM := (HM.front 0 rfl rfl).drop
          replace HM := (HM.front 0 rfl rfl).drop
          replace HM := (HM.front 0 rfl rfl).drop
          replace HM := (HM.front 0 rfl rfl).drop
          replace HM := (HM.front 0 rfl rfl).drop
          replace HM := (HM.front 0 rfl rfl).drop
          replace HM := (HM.front 0 rfl rfl).drop
          replace HM := (HM.front 0 rfl rfl).drop
          have hR := Option.some.inj H
          subst hR
          exact at_ret1 rfl rfl ⟨_, rfl, rfl, HM⟩
        · replace H := cond_f hb4983 H
          refine run_skip ?_
          refine at_then ?_
          refine run_seq ?_
          refine run_seq ?_
          obtain ⟨t4991, h4992, H⟩ := bind_some H
          obtain ⟨t4995, h4996, H⟩ := bind_some H
          refine run_region rfl ?_
          refine ops_ex rfl (guard_none rfl) rfl rfl (ex_move rfl rfl) ?_
          refine ops_ex rfl (guard_none rfl) rfl rfl (ex_move rfl rfl) ?_
          refine ops_does rfl (guard_none rfl) rfl rfl (does_callk rfl callok46 rfl (laws_toRefS.calls (x0 := x1) (HM.rd hp1) h4992)) ?_
          rintro u4993 w4997 ⟨_, rfl, hn⟩
          replace HM : Mem w [] w4997 [own kRef 54 u4993 t4991, own kCoin 123 u4977 t4975, box b4955 52 [.int .i64 t4951.fCode, u4953], own kCoin 123 u4953 t4951.fCoins, own kRef 54 u4948 t4946, own kCoin 123 u4943 t4941, box b4933 52 [.int .i64 t4929.fCode, u4931], own kCoin 123 u4931 t4929.fCoins, own kRef 54 u4927 t4925, own kCoin 123 u4923 t4921] := HM.call hn
          refine ops_does rfl (guard_none rfl) rfl rfl (does_callk rfl callok48 rfl (laws_eqRefS.calls (x0 := t4946) (x1 := t4991) (HM.own_rd 4 rfl) (HM.own_rd 0 rfl) h4996)) ?_
          rintro _ w4998 ⟨rfl, hn⟩
          replace HM : Mem w [] w4998 [own kRef 54 u4993 t4991, own kCoin 123 u4977 t4975, box b4955 52 [.int .i64 t4951.fCode, u4953], own kCoin 123 u4953 t4951.fCoins, own kRef 54 u4948 t4946, own kCoin 123 u4943 t4941, box b4933 52 [.int .i64 t4929.fCode, u4931], own kCoin 123 u4931 t4929.fCoins, own kRef 54 u4927 t4925, own kCoin 123 u4923 t4921] := HM.call hn
          refine ops_ex rfl (guard_none rfl) rfl rfl (ex_not rfl rfl) ?_
          refine ops_nil ?_
          refine at_then ?_
          refine run_cond (b := !t4995) rfl (fun hb4999 => ?_) (fun hb4999 => ?_)
          · replace H := cond_t hb4999 H
            refine run_seq ?_
            refine run_region rfl ?_
            refine ops_ex rfl (guard_none rfl) rfl rfl (ex_assign rfl rfl) ?_
            refine ops_nil ?_
            refine at_then ?_
            refine run_ret ?_
            refine at_then_ret ?_
            replace HM := (HM.front 0 rfl rfl).drop
            replace HM := (HM.front 0 rfl rfl).drop
            replace HM := (HM.front 0 rfl rfl).drop
            replace HM := (HM.front 0 rfl rfl).drop
            replace HM := (HM.front 0 rfl rfl).drop
            replace HM := (HM.front 0 rfl rfl).drop
            replace HM := (HM.front 0 rfl rfl).drop
            replace HM := (HM.front 0 rfl rfl).drop
            replace HM := (HM.front 0 rfl rfl).drop
            replace HM := (HM.front 0 rfl rfl).drop
            have hR := Option.some.inj H
            subst hR
            exact at_ret1 rfl rfl ⟨_, rfl, rfl, HM⟩
          · replace H := cond_f hb4999 H
            refine run_skip ?_
            refine at_then ?_
            refine run_seq ?_
            refine run_region rfl ?_
            refine ops_ex rfl (guard_none rfl) rfl rfl (ex_assign rfl rfl) ?_
            refine ops_nil ?_
            refine at_then ?_
            refine run_seq ?_
            obtain ⟨t5000, h5001, H⟩ := bind_some H
            refine run_region rfl ?_
            refine ops_ex rfl (guard_none rfl) rfl rfl (ex_move rfl rfl) ?_
            refine ops_ex rfl (guard_none rfl) rfl rfl (ex_move rfl rfl) ?_
            replace HM := HM.front 5 rfl rfl
            obtain ⟨F5002, hF5003, hFn5004, hFl5005, HMh5006, hcl5007⟩ := HM.hide (Ms := [own kCoin 123 u4943 t4941])
            refine ops_does rfl (guard_none rfl) rfl rfl (does_callk rfl callok28 rfl (laws_markCoinS.calls (x0 := t4941) (x1 := 1) (hide_olds _ _) hF5003 hFn5004 hFl5005 h5001)) ?_
            rintro _ w5008 ⟨rfl, hn⟩
            replace HM : Mem w [] w5008 [own kCoin 123 u4943 t5000.2, own kRef 54 u4993 t4991, own kCoin 123 u4977 t4975, box b4955 52 [.int .i64 t4951.fCode, u4953], own kCoin 123 u4953 t4951.fCoins, own kRef 54 u4948 t4946, box b4933 52 [.int .i64 t4929.fCode, u4931], own kCoin 123 u4931 t4929.fCoins, own kRef 54 u4927 t4925, own kCoin 123 u4923 t4921] := hcl5007 _ _ hn
            refine ops_ex rfl (guard_none rfl) rfl rfl (ex_assign rfl rfl) ?_
            refine ops_nil ?_
            refine at_then ?_
            refine run_seq ?_
            obtain ⟨t5009, h5010, H⟩ := bind_some H
            refine run_region rfl ?_
            refine ops_ex rfl (guard_none rfl) rfl rfl (ex_move rfl rfl) ?_
            refine ops_ex rfl (guard_none rfl) rfl rfl (ex_move rfl rfl) ?_
            replace HM := HM.front 5 rfl rfl
            obtain ⟨F5011, hF5012, hFn5013, hFl5014, HMh5015, hcl5016⟩ := HM.hide (Ms := [own kRef 54 u4948 t4946])
            refine ops_does rfl (guard_none rfl) rfl rfl (does_callk rfl callok49 rfl (laws_markRefS.calls (x0 := t4946) (x1 := t5000.1) (hide_olds _ _) hF5012 hFn5013 hFl5014 h5010)) ?_
            rintro _ w5017 ⟨rfl, hn⟩
            replace HM : Mem w [] w5017 [own kRef 54 u4948 t5009.2, own kCoin 123 u4943 t5000.2, own kRef 54 u4993 t4991, own kCoin 123 u4977 t4975, box b4955 52 [.int .i64 t4951.fCode, u4953], own kCoin 123 u4953 t4951.fCoins, box b4933 52 [.int .i64 t4929.fCode, u4931], own kCoin 123 u4931 t4929.fCoins, own kRef 54 u4927 t4925, own kCoin 123 u4923 t4921] := hcl5016 _ _ hn
            refine ops_ex rfl (guard_none rfl) rfl rfl (ex_assign rfl rfl) ?_
            refine ops_nil ?_
            refine at_then ?_
            refine run_seq ?_
            refine run_seq ?_
            obtain ⟨t5021, h5022, H⟩ := bind_some H
            refine run_meet (fun ρ_ w_ => ρ_ = [(0, p0), (1, p1), (6, .pointer (some ⟨b4933, 0, none⟩)), (9, .pointer (some ⟨b4955, 0, none⟩)), (63, .bool ((decide (t5009.1 < 0)) || (!t5021)))] ∧ Mem w [] w_ [box b4933 52 [.int .i64 t4929.fCode, u4931], own kCoin 123 u4931 t4929.fCoins, box b4955 52 [.int .i64 t4951.fCode, u4953], own kCoin 123 u4953 t4951.fCoins]) ?_ ?_
            · skip
              refine run_region rfl ?_
              refine ops_ex rfl (guard_none rfl) rfl rfl (ex_move rfl rfl) ?_
              refine ops_ex rfl (guard_none rfl) rfl rfl (ex_lss rfl rfl rfl) ?_
              refine ops_ex rfl (guard_none rfl) rfl rfl (ex_move rfl rfl) ?_
              refine bool_cases (decide (t5009.1 < 0)) (fun hg5023 => ?_) (fun hg5023 => ?_)
              · skip
                refine ops_off rfl (guard_off rfl rfl rfl hg5023) rfl rfl ?_
                refine ops_off rfl (guard_off rfl rfl rfl hg5023) rfl rfl ?_
                refine ops_off rfl (guard_off rfl rfl rfl hg5023) rfl rfl ?_
                refine ops_off rfl (guard_off rfl rfl rfl hg5023) rfl rfl ?_
                have hg5024 : ((decide (t5009.1 < 0)) || (!t5021)) = true := by simp only [hg5023, Bool.and_true, Bool.true_and, Bool.and_false, Bool.false_and, Bool.or_true, Bool.true_or, Bool.or_false, Bool.false_or, Bool.not_true, Bool.not_false, Bool.not_not]
                refine ops_ex (v := .bool ((decide (t5009.1 < 0)) || (!t5021))) rfl (guard_none rfl) rfl rfl (ex_por_t rfl rfl hg5023) ?_
                refine ops_nil ?_
                replace HM := (HM.front 0 rfl rfl).drop
                replace HM := (HM.front 0 rfl rfl).drop
                replace HM := (HM.front 0 rfl rfl).drop
                replace HM := (HM.front 0 rfl rfl).drop
                replace HM := (HM.front 4 rfl rfl).drop
                replace HM := (HM.front 4 rfl rfl).drop
                replace HM := HM.front 1 rfl rfl
                replace HM := HM.front 1 rfl rfl
                replace HM := HM.front 3 rfl rfl
                replace HM := HM.front 3 rfl rfl
                exact at_meet [(0, p0), (1, p1), (6, .pointer (some ⟨b4933, 0, none⟩)), (9, .pointer (some ⟨b4955, 0, none⟩)), (63, .bool ((decide (t5009.1 < 0)) || (!t5021)))] ⟨rfl, HM⟩ (Sub.cons rfl (Sub.cons rfl (Sub.cons rfl (Sub.cons rfl (Sub.cons rfl Sub.nil)))))
              · skip
                refine ops_ex rfl (guard_on rfl rfl rfl hg5023) rfl rfl (ex_loadN (cs := [(.int .i64 t4951.fCode), u4953]) rfl rfl Try.underlying52 rfl tsz52 rfl ((HM.box_at 4 rfl).sub 0 2 rfl)) ?_
                refine ops_ex rfl (guard_on rfl rfl rfl hg5023) rfl rfl (ex_loadN (cs := [(.int .i64 t4929.fCode), u4931]) rfl rfl Try.underlying52 rfl tsz52 rfl ((HM.box_at 6 rfl).sub 0 2 rfl)) ?_
                refine ops_does rfl (guard_on rfl rfl rfl hg5023) rfl rfl (does_callk rfl callok27 rfl (laws_eqCoinsResult.calls (x0 := t4951) (x1 := t4929) (HM.own_rd 5 rfl) (HM.own_rd 7 rfl) (cond_t (not_mk hg5023) h5022))) ?_
                rintro _ w5025 ⟨rfl, hn⟩
                replace HM : Mem w [] w5025 [own kRef 54 u4948 t5009.2, own kCoin 123 u4943 t5000.2, own kRef 54 u4993 t4991, own kCoin 123 u4977 t4975, box b4955 52 [.int .i64 t4951.fCode, u4953], own kCoin 123 u4953 t4951.fCoins, box b4933 52 [.int .i64 t4929.fCode, u4931], own kCoin 123 u4931 t4929.fCoins, own kRef 54 u4927 t4925, own kCoin 123 u4923 t4921] := HM.call hn
                refine ops_ex rfl (guard_on rfl rfl rfl hg5023) rfl rfl (ex_not rfl rfl) ?_
                refine ops_ex (v := .bool ((decide (t5009.1 < 0)) || (!t5021))) rfl (guard_none rfl) rfl rfl (ex_por_f rfl rfl hg5023 rfl) ?_
                refine ops_nil ?_
                replace HM := (HM.front 0 rfl rfl).drop
                replace HM := (HM.front 0 rfl rfl).drop
                replace HM := (HM.front 0 rfl rfl).drop
                replace HM := (HM.front 0 rfl rfl).drop
                replace HM := (HM.front 4 rfl rfl).drop
                replace HM := (HM.front 4 rfl rfl).drop
                replace HM := HM.front 1 rfl rfl
                replace HM := HM.front 1 rfl rfl
                replace HM := HM.front 3 rfl rfl
                replace HM := HM.front 3 rfl rfl
                exact at_meet [(0, p0), (1, p1), (6, .pointer (some ⟨b4933, 0, none⟩)), (9, .pointer (some ⟨b4955, 0, none⟩)), (63, .bool ((decide (t5009.1 < 0)) || (!t5021)))] ⟨rfl, HM⟩ (Sub.cons rfl (Sub.cons rfl (Sub.cons rfl (Sub.cons rfl (Sub.cons rfl Sub.nil)))))
            · rintro _ w5026 ⟨rfl, HM⟩
              refine at_then ?_
              refine run_cond (b := ((decide (t5009.1 < 0)) || (!t5021))) rfl (fun hb5027 => ?_) (fun hb5027 => ?_)
              · replace H := cond_t hb5027 H
                refine run_seq ?_
                refine run_region rfl ?_
                refine ops_ex rfl (guard_none rfl) rfl rfl (ex_assign rfl rfl) ?_
                refine ops_nil ?_
                refine at_then ?_
                refine run_ret ?_
                refine at_then_ret ?_
                replace HM := (HM.front 0 rfl rfl).drop
                replace HM := (HM.front 0 rfl rfl).drop
                replace HM := (HM.front 0 rfl rfl).drop
                replace HM := (HM.front 0 rfl rfl).drop
                have hR := Option.some.inj H
                subst hR
                exact at_ret1 rfl rfl ⟨_, rfl, rfl, HM⟩
              · replace H := cond_f hb5027 H
                refine run_skip ?_
                refine at_then ?_
                refine run_seq ?_
                refine run_region rfl ?_
                refine ops_ex rfl (guard_none rfl) rfl rfl (ex_assign rfl rfl) ?_
                refine ops_nil ?_
                refine at_then ?_
                refine run_seq ?_
                obtain ⟨t5028, h5029, H⟩ := bind_some H
                refine run_region rfl ?_
                refine ops_ex rfl (guard_none rfl) rfl rfl (ex_loadN (cs := [(.int .i64 t4951.fCode), u4953]) rfl rfl Try.underlying52 rfl tsz52 rfl ((HM.box_at 2 rfl).sub 0 2 rfl)) ?_
                refine ops_ex rfl (guard_none rfl) rfl rfl (ex_move rfl rfl) ?_
                replace HM := HM.front 3 rfl rfl
                obtain ⟨F5030, hF5031, hFn5032, hFl5033, HMh5034, hcl5035⟩ := HM.hide (Ms := [own kCoin 123 u4953 t4951.fCoins])
                refine ops_does rfl (guard_none rfl) rfl rfl (does_callk rfl callok29 rfl (laws_markCoinsResult.calls (x0 := t4951) (x1 := 1) (hide_olds _ _) hF5031 hFn5032 hFl5033 h5029)) ?_
                rintro _ w5036 ⟨rfl, hn⟩
                replace HM : Mem w [] w5036 [own kCoin 123 u4953 t5028.2, box b4933 52 [.int .i64 t4929.fCode, u4931], own kCoin 123 u4931 t4929.fCoins, box b4955 52 [.int .i64 t4951.fCode, u4953]] := hcl5035 _ _ hn
                refine ops_ex rfl (guard_none rfl) rfl rfl (ex_assign rfl rfl) ?_
                refine ops_nil ?_
                refine at_then ?_
                refine run_seq ?_
                refine run_region rfl ?_
                refine ops_ex rfl (guard_none rfl) rfl rfl (ex_assign rfl rfl) ?_
                refine ops_nil ?_
                refine at_then ?_
                refine run_seq ?_
                obtain ⟨t5037, h5038, H⟩ := bind_some H
                refine run_region rfl ?_
                refine ops_ex rfl (guard_none rfl) rfl rfl (ex_loadN (cs := [(.int .i64 t4951.fCode), u4953]) rfl rfl Try.underlying52 rfl tsz52 rfl ((HM.box_at 3 rfl).sub 0 2 rfl)) ?_
                refine ops_ex rfl (guard_none rfl) rfl rfl (ex_move rfl rfl) ?_
                refine ops_does rfl (guard_none rfl) rfl rfl (does_callk rfl callok30 rfl (laws_heldCoinsResult.calls (x0 := (⟨t4951.fCode, t5028.2⟩ : CoinsResult)) (x1 := 1) (HM.own_rd 0 rfl) h5038)) ?_
                rintro _ w5039 ⟨rfl, hn⟩
                replace HM : Mem w [] w5039 [own kCoin 123 u4953 t5028.2, box b4933 52 [.int .i64 t4929.fCode, u4931], own kCoin 123 u4931 t4929.fCoins, box b4955 52 [.int .i64 t4951.fCode, u4953]] := HM.call hn
                refine ops_ex rfl (guard_none rfl) rfl rfl (ex_assign rfl rfl) ?_
                refine ops_nil ?_
                refine at_then ?_
                refine run_seq ?_
                refine run_seq ?_
                refine run_region rfl ?_
                refine ops_ex rfl (guard_none rfl) rfl rfl (ex_move rfl rfl) ?_
                refine ops_ex rfl (guard_none rfl) rfl rfl (ex_lss rfl rfl rfl) ?_
                refine ops_nil ?_
                refine at_then ?_
                refine run_cond (b := (decide (t5037 < 0))) rfl (fun hb5041 => ?_) (fun hb5041 => ?_)
                · replace H := cond_t hb5041 H
                  refine run_seq ?_
                  refine run_region rfl ?_
                  refine ops_ex rfl (guard_none rfl) rfl rfl (ex_assign rfl rfl) ?_
                  refine ops_nil ?_
                  refine at_then ?_
                  refine run_ret ?_
                  refine at_then_ret ?_
                  replace HM := (HM.front 0 rfl rfl).drop
                  replace HM := (HM.front 0 rfl rfl).drop
                  replace HM := (HM.front 0 rfl rfl).drop
                  replace HM := (HM.front 0 rfl rfl).drop
                  have hR := Option.some.inj H
                  subst hR
                  exact at_ret1 rfl rfl ⟨_, rfl, rfl, HM⟩
                · replace H := cond_f hb5041 H
                  refine run_skip ?_
                  refine at_then ?_
                  refine run_seq ?_
                  refine run_seq ?_
                  refine run_region rfl ?_
                  refine ops_ex rfl (guard_none rfl) rfl rfl (ex_move rfl rfl) ?_
                  refine ops_ex rfl (guard_none rfl) rfl rfl (ex_move rfl rfl) ?_
                  refine ops_ex rfl (guard_none rfl) rfl rfl (ex_neq rfl rfl rfl) ?_
                  refine ops_nil ?_
                  refine at_then ?_
                  refine run_cond (b := (t5037 != t5028.1)) rfl (fun hb5043 => ?_) (fun hb5043 => ?_)
                  · replace H := cond_t hb5043 H
                    refine run_seq ?_
                    refine run_region rfl ?_
                    refine ops_ex rfl (guard_none rfl) rfl rfl (ex_assign rfl rfl) ?_
                    refine ops_nil ?_
                    refine at_then ?_
                    refine run_ret ?_
                    refine at_then_ret ?_
                    replace HM := (HM.front 0 rfl rfl).drop
                    replace HM := (HM.front 0 rfl rfl).drop
                    replace HM := (HM.front 0 rfl rfl).drop
                    replace HM := (HM.front 0 rfl rfl).drop
                    have hR := Option.some.inj H
                    subst hR
                    exact at_ret1 rfl rfl ⟨_, rfl, rfl, HM⟩
                  · replace H := cond_f hb5043 H
                    refine run_skip ?_
                    refine at_then ?_
                    refine run_seq ?_
                    obtain ⟨t5044, h5045, H⟩ := bind_some H
                    obtain ⟨t5048, h5049, H⟩ := bind_some H
                    obtain ⟨t5052, h5053, H⟩ := bind_some H
                    refine run_region rfl ?_
                    refine ops_ex rfl (guard_none rfl) rfl rfl (ex_move rfl rfl) ?_
                    refine ops_does rfl (guard_none rfl) rfl rfl (does_callk rfl callok20 rfl (laws_toCoinS.calls (x0 := x0) (HM.rd hp0) h5045)) ?_
                    rintro u5046 w5059 ⟨_, rfl, hn⟩
                    replace HM : Mem w [] w5059 [own kCoin 123 u5046 t5044, own kCoin 123 u4953 t5028.2, box b4933 52 [.int .i64 t4929.fCode, u4931], own kCoin 123 u4931 t4929.fCoins, box b4955 52 [.int .i64 t4951.fCode, u4953]] := HM.call hn
                    refine ops_ex rfl (guard_none rfl) rfl rfl (ex_move rfl rfl) ?_
                    refine ops_does rfl (guard_none rfl) rfl rfl (does_callk rfl callok46 rfl (laws_toRefS.calls (x0 := x1) (HM.rd hp1) h5049)) ?_
                    rintro u5050 w5060 ⟨_, rfl, hn⟩
                    replace HM : Mem w [] w5060 [own kRef 54 u5050 t5048, own kCoin 123 u5046 t5044, own kCoin 123 u4953 t5028.2, box b4933 52 [.int .i64 t4929.fCode, u4931], own kCoin 123 u4931 t4929.fCoins, box b4955 52 [.int .i64 t4951.fCode, u4953]] := HM.call hn
                    refine ops_does rfl (guard_none rfl) rfl rfl (does_callk rfl callok47 rfl (impl_TakeCoins.calls (x0 := t5044) (x1 := t5048) (HM.own_rd 1 rfl) (HM.own_rd 0 rfl) h5053)) ?_
                    rintro _ w5061 ⟨u5054, rfl, hn⟩
                    replace HM : Mem w [] w5061 [own kCoin 123 u5054 t5052.fCoins, own kRef 54 u5050 t5048, own kCoin 123 u5046 t5044, own kCoin 123 u4953 t5028.2, box b4933 52 [.int .i64 t4929.fCode, u4931], own kCoin 123 u4931 t4929.fCoins, box b4955 52 [.int .i64 t4951.fCode, u4953]] := HM.call hn
                    refine ops_does rfl (guard_none rfl) rfl rfl (does_alloc (cs := [.int .i64 0, .slice none 0 0]) rfl tz52 rfl HM) ?_
                    rintro _ w5062 ⟨b5056, rfl, HM⟩
                    refine ops_doesS rfl (guard_none rfl) rfl (does_store (vs := [.int .i64 t5052.fCode, u5054]) (cs' := [.int .i64 t5052.fCode, u5054]) rfl rfl rfl rfl tsz52 (Ones.int (Ones.rd (HM.own_rd 1 rfl) Ones.nil)) rfl rfl HM) ?_
                    rintro w5063 HM
                    refine ops_nil ?_
                    refine at_then ?_
                    refine run_seq ?_
                    refine run_seq ?_
                    obtain ⟨t5067, h5068, H⟩ := bind_some H
                    refine run_region rfl ?_
                    refine ops_ex rfl (guard_none rfl) rfl rfl (ex_loadN (cs := [(.int .i64 t5052.fCode), u5054]) rfl rfl Try.underlying52 rfl tsz52 rfl ((HM.box_at 0 rfl).sub 0 2 rfl)) ?_
                    refine ops_ex rfl (guard_none rfl) rfl rfl (ex_loadN (cs := [(.int .i64 t4929.fCode), u4931]) rfl rfl Try.underlying52 rfl tsz52 rfl ((HM.box_at 5 rfl).sub 0 2 rfl)) ?_
                    refine ops_does rfl (guard_none rfl) rfl rfl (does_callk rfl callok27 rfl (laws_eqCoinsResult.calls (x0 := t5052) (x1 := t4929) (HM.own_rd 1 rfl) (HM.own_rd 6 rfl) h5068)) ?_
                    rintro _ w5069 ⟨rfl, hn⟩
                    replace HM : Mem w [] w5069 [box b5056 52 [.int .i64 t5052.fCode, u5054], own kCoin 123 u5054 t5052.fCoins, own kRef 54 u5050 t5048, own kCoin 123 u5046 t5044, own kCoin 123 u4953 t5028.2, box b4933 52 [.int .i64 t4929.fCode, u4931], own kCoin 123 u4931 t4929.fCoins, box b4955 52 [.int .i64 t4951.fCode, u4953]] := HM.call hn
                    refine ops_ex rfl (guard_none rfl) rfl rfl (ex_not rfl rfl) ?_
                    refine ops_nil ?_
                    refine at_then ?_
                    refine run_cond (b := !t5067) rfl (fun hb5070 => ?_) (fun hb5070 => ?_)
                    · replace H := cond_t hb5070 H
                      refine run_seq ?_
                      refine run_region rfl ?_
                      refine ops_ex rfl (guard_none rfl) rfl rfl (ex_assign rfl rfl) ?_
                      refine ops_nil ?_
                      refine at_then ?_
                      refine run_ret ?_
                      refine at_then_ret ?_
                      replace HM := (HM.front 0 rfl rfl).drop
                      replace HM := (HM.front 0 rfl rfl).drop
                      replace HM := (HM.front 0 rfl rfl).drop
                      replace HM := (HM.front 0 rfl rfl).drop
                      replace HM := (HM.front 0 rfl rfl).drop
                      replace HM := (HM.front 0 rfl rfl).drop
                      replace HM := (HM.front 0 rfl rfl).drop
                      replace HM := (HM.front 0 rfl rfl).drop
                      have hR := Option.some.inj H
                      subst hR
                      exact at_ret1 rfl rfl ⟨_, rfl, rfl, HM⟩
                    · replace H := cond_f hb5070 H
                      refine run_skip ?_
                      refine at_then ?_
                      refine run_seq ?_
                      refine run_region rfl ?_
                      refine ops_ex rfl (guard_none rfl) rfl rfl (ex_assign rfl rfl) ?_
                      refine ops_nil ?_
                      refine at_then ?_
                      refine run_seq ?_
                      obtain ⟨t5071, h5072, H⟩ := bind_some H
                      refine run_region rfl ?_
                      refine ops_ex rfl (guard_none rfl) rfl rfl (ex_loadN (cs := [(.int .i64 t4951.fCode), u4953]) rfl rfl Try.underlying52 rfl tsz52 rfl ((HM.box_at 7 rfl).sub 0 2 rfl)) ?_
                      refine ops_ex rfl (guard_none rfl) rfl rfl (ex_move rfl rfl) ?_
                      refine ops_does rfl (guard_none rfl) rfl rfl (does_callk rfl callok30 rfl (laws_heldCoinsResult.calls (x0 := (⟨t4951.fCode, t5028.2⟩ : CoinsResult)) (x1 := 1) (HM.own_rd 4 rfl) h5072)) ?_
                      rintro _ w5073 ⟨rfl, hn⟩
                      replace HM : Mem w [] w5073 [box b5056 52 [.int .i64 t5052.fCode, u5054], own kCoin 123 u5054 t5052.fCoins, own kRef 54 u5050 t5048, own kCoin 123 u5046 t5044, own kCoin 123 u4953 t5028.2, box b4933 52 [.int .i64 t4929.fCode, u4931], own kCoin 123 u4931 t4929.fCoins, box b4955 52 [.int .i64 t4951.fCode, u4953]] := HM.call hn
                      refine ops_ex rfl (guard_none rfl) rfl rfl (ex_assign rfl rfl) ?_
                      refine ops_nil ?_
                      refine at_then ?_
                      refine run_seq ?_
                      refine run_seq ?_
                      refine run_region rfl ?_
                      refine ops_ex rfl (guard_none rfl) rfl rfl (ex_move rfl rfl) ?_
                      refine ops_ex rfl (guard_none rfl) rfl rfl (ex_lss rfl rfl rfl) ?_
                      refine ops_nil ?_
                      refine at_then ?_
                      refine run_cond (b := (decide (t5071 < 0))) rfl (fun hb5075 => ?_) (fun hb5075 => ?_)
                      · replace H := cond_t hb5075 H
                        refine run_seq ?_
                        refine run_region rfl ?_
                        refine ops_ex rfl (guard_none rfl) rfl rfl (ex_assign rfl rfl) ?_
                        refine ops_nil ?_
                        refine at_then ?_
                        refine run_ret ?_
                        refine at_then_ret ?_
                        replace HM := (HM.front 0 rfl rfl).drop
                        replace HM := (HM.front 0 rfl rfl).drop
                        replace HM := (HM.front 0 rfl rfl).drop
                        replace HM := (HM.front 0 rfl rfl).drop
                        replace HM := (HM.front 0 rfl rfl).drop
                        replace HM := (HM.front 0 rfl rfl).drop
                        replace HM := (HM.front 0 rfl rfl).drop
                        replace HM := (HM.front 0 rfl rfl).drop
                        have hR := Option.some.inj H
                        subst hR
                        exact at_ret1 rfl rfl ⟨_, rfl, rfl, HM⟩
                      · replace H := cond_f hb5075 H
                        refine run_skip ?_
                        refine at_then ?_
                        refine run_seq ?_
                        refine run_seq ?_
                        refine run_region rfl ?_
                        refine ops_ex rfl (guard_none rfl) rfl rfl (ex_move rfl rfl) ?_
                        refine ops_ex rfl (guard_none rfl) rfl rfl (ex_move rfl rfl) ?_
                        refine ops_ex rfl (guard_none rfl) rfl rfl (ex_neq rfl rfl rfl) ?_
                        refine ops_nil ?_
                        refine at_then ?_
                        refine run_cond (b := (t5071 != t5028.1)) rfl (fun hb5076 => ?_) (fun hb5076 => ?_)
                        · replace H := cond_t hb5076 H
                          refine run_seq ?_
                          refine run_region rfl ?_
                          refine ops_ex rfl (guard_none rfl) rfl rfl (ex_assign rfl rfl) ?_
                          refine ops_nil ?_
                          refine at_then ?_
                          refine run_ret ?_
                          refine at_then_ret ?_
                          replace HM := (HM.front 0 rfl rfl).drop
                          replace HM := (HM.front 0 rfl rfl).drop
                          replace HM := (HM.front 0 rfl rfl).drop
                          replace HM := (HM.front 0 rfl rfl).drop
                          replace HM := (HM.front 0 rfl rfl).drop
                          replace HM := (HM.front 0 rfl rfl).drop
                          replace HM := (HM.front 0 rfl rfl).drop
                          replace HM := (HM.front 0 rfl rfl).drop
                          have hR := Option.some.inj H
                          subst hR
                          exact at_ret1 rfl rfl ⟨_, rfl, rfl, HM⟩
                        · replace H := cond_f hb5076 H
                          refine run_skip ?_
                          refine at_then ?_
                          refine run_seq ?_
                          refine run_region rfl ?_
                          refine ops_ex rfl (guard_none rfl) rfl rfl (ex_assign rfl rfl) ?_
                          refine ops_nil ?_
                          refine at_then ?_
                          refine run_ret ?_
                          replace HM := (HM.front 0 rfl rfl).drop
                          replace HM := (HM.front 0 rfl rfl).drop
                          replace HM := (HM.front 0 rfl rfl).drop
                          replace HM := (HM.front 0 rfl rfl).drop
                          replace HM := (HM.front 0 rfl rfl).drop
                          replace HM := (HM.front 0 rfl rfl).drop
                          replace HM := (HM.front 0 rfl rfl).drop
                          replace HM := (HM.front 0 rfl rfl).drop
                          have hR := Option.some.inj H
                          subst hR
                          exact at_ret1 rfl rfl ⟨_, rfl, rfl, HM⟩
end Go.Proofs.Ytigojhglkilodaa.Zk
