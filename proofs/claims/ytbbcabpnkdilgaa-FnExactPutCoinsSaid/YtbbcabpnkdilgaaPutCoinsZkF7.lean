/- What functions of the program compute, each as a plain function, and that they do. Conditions: as each theorem states them. -/
import Derived.Test.YtbbcabpnkdilgaaPutCoinsZkF6
namespace Go.Proofs.Ytbbcabpnkdilgaa.Zk
open Go Go.RowKit Go.IntWalk Go.Proofs
set_option linter.unusedVariables false
set_option linter.unusedSimpArgs false
set_option maxRecDepth 100000
set_option maxHeartbeats 4000000
def laws_heldCoinsResult.f (k : Nat) (x0 : CoinsResult) (x1 : Int) : Option Int := ((laws_heldCoinS.f k x0.fCoins x1).bind fun t5677 => (bif (decide (t5677 < 0)) then some (-1) else some t5677))
theorem laws_heldCoinsResult.calls {k : Nat} {x0 : CoinsResult} {x1 : Int} {p0_0 : Value} {w : World} (hp0_0 : RdS kCoin w p0_0 x0.fCoins) {r : Int} (H : laws_heldCoinsResult.f k x0 x1 = some r) :
    Calls Try.prog 46 ([.agg #[(.int .i64 x0.fCode), p0_0], .int .i64 x1] : List Value).toArray w (fun e w_ => ∃ v, e = .returned v ∧ v = (.int .i64 r) ∧ Mem w [] w_ []) := by
  have HM := Mem.start w
  refine calls_run (N := 12) Try.func46 rfl rfl rfl rfl ?_
  unfold laws_heldCoinsResult.f at H
  refine run_seq ?_
  refine run_region rfl ?_
  refine ops_does rfl (guard_none rfl) rfl rfl (does_box (cs := [.int .i64 x0.fCode, p0_0]) rfl rfl rfl HM) ?_
  rintro _ w5676 ⟨b5673, rfl, HM⟩
  refine ops_ex rfl (guard_none rfl) rfl rfl (ex_assign rfl rfl) ?_
  refine ops_nil ?_
  refine at_then ?_
  refine run_seq ?_
  obtain ⟨t5677, h5678, H⟩ := bind_some H
  refine run_region rfl ?_
  refine ops_ex rfl (guard_none rfl) rfl rfl (ex_fieldAddr (off' := 1) rfl rfl Try.underlying64 rfl tsz60 rfl) ?_
  refine ops_ex rfl (guard_none rfl) rfl rfl (ex_load1 rfl rfl Try.underlying60 rfl ((HM.box_at 0 rfl) 1 _ rfl)) ?_
  refine ops_ex rfl (guard_none rfl) rfl rfl (ex_move rfl rfl) ?_
  refine ops_does rfl (guard_none rfl) rfl rfl (does_callk rfl callok102 rfl (laws_heldCoinS.calls (x0 := x0.fCoins) (x1 := x1) (HM.rd hp0_0) h5678)) ?_
  rintro _ w5679 ⟨rfl, hn⟩
  replace HM : Mem w [] w5679 [box b5673 64 [.int .i64 x0.fCode, p0_0]] := HM.call hn
  refine ops_ex rfl (guard_none rfl) rfl rfl (ex_assign rfl rfl) ?_
  refine ops_nil ?_
  refine at_then ?_
  refine run_seq ?_
  refine run_seq ?_
  refine run_region rfl ?_
  refine ops_ex rfl (guard_none rfl) rfl rfl (ex_move rfl rfl) ?_
  refine ops_ex rfl (guard_none rfl) rfl rfl (ex_lss rfl rfl rfl) ?_
  refine ops_nil ?_
  refine at_then ?_
  refine run_cond (b := (decide (t5677 < 0))) rfl (fun hb5680 => ?_) (fun hb5680 => ?_)
  · replace H := cond_t hb5680 H
    refine run_seq ?_
    refine run_region rfl ?_
    refine ops_ex rfl (guard_none rfl) rfl rfl (ex_assign rfl rfl) ?_
    refine ops_nil ?_
    refine at_then ?_
    refine run_ret ?_
    refine at_then_ret ?_
    replace HM := (HM.front 0 rfl rfl).drop
    have hR := Option.some.inj H
    subst hR
    exact at_ret1 rfl rfl ⟨_, rfl, rfl, HM⟩
  · replace H := cond_f hb5680 H
    refine run_skip ?_
    refine at_then ?_
    refine run_seq ?_
    refine run_region rfl ?_
    refine ops_ex rfl (guard_none rfl) rfl rfl (ex_move rfl rfl) ?_
    refine ops_ex rfl (guard_none rfl) rfl rfl (ex_assign rfl rfl) ?_
    refine ops_nil ?_
    refine at_then ?_
    refine run_ret ?_
    replace HM := (HM.front 0 rfl rfl).drop
    have hR := Option.some.inj H
    subst hR
    exact at_ret1 rfl rfl ⟨_, rfl, rfl, HM⟩

def laws_FnExactPutCoins.f (k : Nat) (x0 : List Coin) (x1 : Int) (x2 : List Out) (x3 : Int) (x4 : Bool) : Option Bool := ((laws_szCoinS.f k x0 1048576).bind fun t5713 => (bif (decide (t5713 < 0)) then some true else ((laws_szOutS.f k x2 t5713).bind fun t5718 => (bif (decide (t5718 < 0)) then some true else ((laws_toCoinS.f k x0).bind fun t5723 => ((laws_toOutS.f k x2).bind fun t5727 => ((spec_PutCoins.f k t5723 x1 t5727 x3 x4).bind fun t5731 => ((laws_toCoinS.f k x0).bind fun t5743 => ((laws_toOutS.f k x2).bind fun t5748 => ((impl_PutCoins.f k t5743 x1 t5748 x3 x4).bind fun t5753 => ((laws_eqCoinsResult.f k t5753 t5731).bind fun t5766 => (bif !t5766 then some false else ((laws_toCoinS.f k x0).bind fun t5777 => ((laws_eqCoinS.f k t5743 t5777).bind fun t5781 => (bif !t5781 then some false else ((laws_toOutS.f k x2).bind fun t5793 => ((laws_eqOutS.f k t5748 t5793).bind fun t5797 => (bif !t5797 then some false else ((laws_markCoinS.f k t5743 1).bind fun t5802 => ((laws_markOutS.f k t5748 t5802.1).bind fun t5811 => ((bif (!(decide (t5811.1 < 0))) then laws_eqCoinsResult.f k t5753 t5731 else some default).bind fun t5823 => (bif ((decide (t5811.1 < 0)) || (!t5823)) then some false else ((laws_markCoinsResult.f k t5753 1).bind fun t5830 => ((laws_heldCoinsResult.f k (⟨t5753.fCode, t5830.2⟩ : CoinsResult) 1).bind fun t5839 => (bif (decide (t5839 < 0)) then some false else (bif (t5839 != t5830.1) then some false else ((laws_toCoinS.f k x0).bind fun t5846 => ((laws_toOutS.f k x2).bind fun t5850 => ((impl_PutCoins.f k t5846 x1 t5850 x3 x4).bind fun t5854 => ((laws_eqCoinsResult.f k t5854 t5731).bind fun t5869 => (bif !t5869 then some false else ((laws_heldCoinsResult.f k (⟨t5753.fCode, t5830.2⟩ : CoinsResult) 1).bind fun t5873 => (bif (decide (t5873 < 0)) then some false else (bif (t5873 != t5830.1) then some false else some true))))))))))))))))))))))))))))))))))
theorem laws_FnExactPutCoins.calls {k : Nat} {x0 : List Coin} {x1 : Int} {x2 : List Out} {x3 : Int} {x4 : Bool} {p0 : Value} {p2 : Value} {w : World} (hp0 : RdS kCoin w p0 x0) (hp2 : RdS kOut w p2 x2) {r : Bool} (H : laws_FnExactPutCoins.f k x0 x1 x2 x3 x4 = some r) :
    Calls Try.prog 6 ([p0, .int .i64 x1, p2, .int .i64 x3, .bool x4] : List Value).toArray w (fun e w_ => ∃ v, e = .returned v ∧ v = (.bool r) ∧ Mem w [] w_ []) := by
  have HM := Mem.start w
  refine calls_run (N := 107) Try.func6 rfl rfl rfl rfl ?_
  unfold laws_FnExactPutCoins.f at H
  refine run_seq ?_
  refine run_region rfl ?_
  refine ops_ex rfl (guard_none rfl) rfl rfl (ex_assign rfl rfl) ?_
  refine ops_nil ?_
  refine at_then ?_
  refine run_seq ?_
  refine run_region rfl ?_
  refine ops_ex rfl (guard_none rfl) rfl rfl (ex_assign rfl rfl) ?_
  refine ops_nil ?_
  refine at_then ?_
  refine run_seq ?_
  obtain ⟨t5713, h5714, H⟩ := bind_some H
  refine run_region rfl ?_
  refine ops_ex rfl (guard_none rfl) rfl rfl (ex_move rfl rfl) ?_
  refine ops_ex rfl (guard_none rfl) rfl rfl (ex_move rfl rfl) ?_
  refine ops_does rfl (guard_none rfl) rfl rfl (does_callk rfl callok36 rfl (laws_szCoinS.calls (x0 := x0) (x1 := 1048576) (HM.rd hp0) h5714)) ?_
  rintro _ w5715 ⟨rfl, hn⟩
  replace HM : Mem w [] w5715 [] := HM.call hn
  refine ops_ex rfl (guard_none rfl) rfl rfl (ex_assign rfl rfl) ?_
  refine ops_nil ?_
  refine at_then ?_
  refine run_seq ?_
  refine run_seq ?_
  refine run_region rfl ?_
  refine ops_ex rfl (guard_none rfl) rfl rfl (ex_move rfl rfl) ?_
  refine ops_ex rfl (guard_none rfl) rfl rfl (ex_lss rfl rfl rfl) ?_
  refine ops_nil ?_
  refine at_then ?_
  refine run_cond (b := (decide (t5713 < 0))) rfl (fun hb5717 => ?_) (fun hb5717 => ?_)
  · replace H := cond_t hb5717 H
    refine run_seq ?_
    refine run_region rfl ?_
    refine ops_ex rfl (guard_none rfl) rfl rfl (ex_assign rfl rfl) ?_
    refine ops_nil ?_
    refine at_then ?_
    refine run_ret ?_
    refine at_then_ret ?_
    have hR := Option.some.inj H
    subst hR
    exact at_ret1 rfl rfl ⟨_, rfl, rfl, HM⟩
  · replace H := cond_f hb5717 H
    refine run_skip ?_
    refine at_then ?_
    refine run_seq ?_
    obtain ⟨t5718, h5719, H⟩ := bind_some H
    refine run_region rfl ?_
    refine ops_ex rfl (guard_none rfl) rfl rfl (ex_move rfl rfl) ?_
    refine ops_ex rfl (guard_none rfl) rfl rfl (ex_move rfl rfl) ?_
    refine ops_does rfl (guard_none rfl) rfl rfl (does_callk rfl callok37 rfl (laws_szOutS.calls (x0 := x2) (x1 := t5713) (HM.rd hp2) h5719)) ?_
    rintro _ w5720 ⟨rfl, hn⟩
    replace HM : Mem w [] w5720 [] := HM.call hn
    refine ops_ex rfl (guard_none rfl) rfl rfl (ex_assign rfl rfl) ?_
    refine ops_nil ?_
    refine at_then ?_
    refine run_seq ?_
    refine run_seq ?_
    refine run_region rfl ?_
    refine ops_ex rfl (guard_none rfl) rfl rfl (ex_move rfl rfl) ?_
    refine ops_ex rfl (guard_none rfl) rfl rfl (ex_lss rfl rfl rfl) ?_
    refine ops_nil ?_
    refine at_then ?_
    refine run_cond (b := (decide (t5718 < 0))) rfl (fun hb5722 => ?_) (fun hb5722 => ?_)
    · replace H := cond_t hb5722 H
      refine run_seq ?_
      refine run_region rfl ?_
      refine ops_ex rfl (guard_none rfl) rfl rfl (ex_assign rfl rfl) ?_
      refine ops_nil ?_
      refine at_then ?_
      refine run_ret ?_
      refine at_then_ret ?_
      have hR := Option.some.inj H
      subst hR
      exact at_ret1 rfl rfl ⟨_, rfl, rfl, HM⟩
    · replace H := cond_f hb5722 H
      refine run_skip ?_
      refine at_then ?_
      refine run_seq ?_
      obtain ⟨t5723, h5724, H⟩ := bind_some H
      obtain ⟨t5727, h5728, H⟩ := bind_some H
      obtain ⟨t5731, h5732, H⟩ := bind_some H
      refine run_region rfl ?_
      refine ops_ex rfl (guard_none rfl) rfl rfl (ex_move rfl rfl) ?_
      refine ops_does rfl (guard_none rfl) rfl rfl (does_callk rfl callok38 rfl (laws_toCoinS.calls (x0 := x0) (HM.rd hp0) h5724)) ?_
      rintro u5725 w5738 ⟨_, rfl, hn⟩
      replace HM : Mem w [] w5738 [own kCoin 72 u5725 t5723] := HM.call hn
      refine ops_ex rfl (guard_none rfl) rfl rfl (ex_move rfl rfl) ?_
      refine ops_ex rfl (guard_none rfl) rfl rfl (ex_move rfl rfl) ?_
      refine ops_does rfl (guard_none rfl) rfl rfl (does_callk rfl callok39 rfl (laws_toOutS.calls (x0 := x2) (HM.rd hp2) h5728)) ?_
      rintro u5729 w5739 ⟨_, rfl, hn⟩
      replace HM : Mem w [] w5739 [own kOut 69 u5729 t5727, own kCoin 72 u5725 t5723] := HM.call hn
      refine ops_ex rfl (guard_none rfl) rfl rfl (ex_move rfl rfl) ?_
      refine ops_ex rfl (guard_none rfl) rfl rfl (ex_move rfl rfl) ?_
      refine ops_does rfl (guard_none rfl) rfl rfl (does_callk rfl callok28 rfl (spec_PutCoins.calls (x0 := t5723) (x1 := x1) (x2 := t5727) (x3 := x3) (x4 := x4) (HM.own_rd 1 rfl) (HM.own_rd 0 rfl) h5732)) ?_
      rintro _ w5740 ⟨u5733, rfl, hn⟩
      replace HM : Mem w [] w5740 [own kCoin 72 u5733 t5731.fCoins, own kOut 69 u5729 t5727, own kCoin 72 u5725 t5723] := HM.call hn
      refine ops_does rfl (guard_none rfl) rfl rfl (does_alloc (cs := [.int .i64 0, .slice none 0 0]) rfl tz64 rfl HM) ?_
      rintro _ w5741 ⟨b5735, rfl, HM⟩
      refine ops_doesS rfl (guard_none rfl) rfl (does_store (vs := [.int .i64 t5731.fCode, u5733]) (cs' := [.int .i64 t5731.fCode, u5733]) rfl rfl rfl rfl tsz64 (Ones.int (Ones.rd (HM.own_rd 1 rfl) Ones.nil)) rfl rfl HM) ?_
      rintro w5742 HM
      refine ops_nil ?_
      refine at_then ?_
      refine run_seq ?_
      obtain ⟨t5743, h5744, H⟩ := bind_some H
      refine run_region rfl ?_
      refine ops_ex rfl (guard_none rfl) rfl rfl (ex_move rfl rfl) ?_
      refine ops_does rfl (guard_none rfl) rfl rfl (does_callk rfl callok38 rfl (laws_toCoinS.calls (x0 := x0) (HM.rd hp0) h5744)) ?_
      rintro u5745 w5747 ⟨_, rfl, hn⟩
      replace HM : Mem w [] w5747 [own kCoin 72 u5745 t5743, box b5735 64 [.int .i64 t5731.fCode, u5733], own kCoin 72 u5733 t5731.fCoins, own kOut 69 u5729 t5727, own kCoin 72 u5725 t5723] := HM.call hn
      refine ops_ex rfl (guard_none rfl) rfl rfl (ex_assign rfl rfl) ?_
      refine ops_nil ?_
      refine at_then ?_
      refine run_seq ?_
      obtain ⟨t5748, h5749, H⟩ := bind_some H
      refine run_region rfl ?_
      refine ops_ex rfl (guard_none rfl) rfl rfl (ex_move rfl rfl) ?_
      refine ops_does rfl (guard_none rfl) rfl rfl (does_callk rfl callok39 rfl (laws_toOutS.calls (x0 := x2) (HM.rd hp2) h5749)) ?_
      rintro u5750 w5752 ⟨_, rfl, hn⟩
      replace HM : Mem w [] w5752 [own kOut 69 u5750 t5748, own kCoin 72 u5745 t5743, box b5735 64 [.int .i64 t5731.fCode, u5733], own kCoin 72 u5733 t5731.fCoins, own kOut 69 u5729 t5727, own kCoin 72 u5725 t5723] := HM.call hn
      refine ops_ex rfl (guard_none rfl) rfl rfl (ex_assign rfl rfl) ?_
      refine ops_nil ?_
      refine at_then ?_
      refine run_seq ?_
      obtain ⟨t5753, h5754, H⟩ := bind_some H
      refine run_region rfl ?_
      refine ops_ex rfl (guard_none rfl) rfl rfl (ex_move rfl rfl) ?_
      refine ops_ex rfl (guard_none rfl) rfl rfl (ex_move rfl rfl) ?_
      refine ops_ex rfl (guard_none rfl) rfl rfl (ex_move rfl rfl) ?_
      refine ops_ex rfl (guard_none rfl) rfl rfl (ex_move rfl rfl) ?_
      refine ops_ex rfl (guard_none rfl) rfl rfl (ex_move rfl rfl) ?_
      refine ops_does rfl (guard_none rfl) rfl rfl (does_callk rfl callok27 rfl (impl_PutCoins.calls (x0 := t5743) (x1 := x1) (x2 := t5748) (x3 := x3) (x4 := x4) (HM.own_rd 1 rfl) (HM.own_rd 0 rfl) h5754)) ?_
      rintro _ w5760 ⟨u5755, rfl, hn⟩
      replace HM : Mem w [] w5760 [own kCoin 72 u5755 t5753.fCoins, own kOut 69 u5750 t5748, own kCoin 72 u5745 t5743, box b5735 64 [.int .i64 t5731.fCode, u5733], own kCoin 72 u5733 t5731.fCoins, own kOut 69 u5729 t5727, own kCoin 72 u5725 t5723] := HM.call hn
      refine ops_does rfl (guard_none rfl) rfl rfl (does_alloc (cs := [.int .i64 0, .slice none 0 0]) rfl tz64 rfl HM) ?_
      rintro _ w5761 ⟨b5757, rfl, HM⟩
      refine ops_doesS rfl (guard_none rfl) rfl (does_store (vs := [.int .i64 t5753.fCode, u5755]) (cs' := [.int .i64 t5753.fCode, u5755]) rfl rfl rfl rfl tsz64 (Ones.int (Ones.rd (HM.own_rd 1 rfl) Ones.nil)) rfl rfl HM) ?_
      rintro w5762 HM
      refine ops_nil ?_
      refine at_then ?_
      refine run_seq ?_
      refine run_seq ?_
      obtain ⟨t5766, h5767, H⟩ := bind_some H
      refine run_region rfl ?_
      refine ops_ex rfl (guard_none rfl) rfl rfl (ex_loadN (cs := [(.int .i64 t5753.fCode), u5755]) rfl rfl Try.underlying64 rfl tsz64 rfl ((HM.box_at 0 rfl).sub 0 2 rfl)) ?_
      refine ops_ex rfl (guard_none rfl) rfl rfl (ex_loadN (cs := [(.int .i64 t5731.fCode), u5733]) rfl rfl Try.underlying64 rfl tsz64 rfl ((HM.box_at 4 rfl).sub 0 2 rfl)) ?_
      refine ops_does rfl (guard_none rfl) rfl rfl (does_callk rfl callok40 rfl (laws_eqCoinsResult.calls (x0 := t5753) (x1 := t5731) (HM.own_rd 1 rfl) (HM.own_rd 5 rfl) h5767)) ?_
      rintro _ w5768 ⟨rfl, hn⟩
      replace HM : Mem w [] w5768 [box b5757 64 [.int .i64 t5753.fCode, u5755], own kCoin 72 u5755 t5753.fCoins, own kOut 69 u5750 t5748, own kCoin 72 u5745 t5743, box b5735 64 [.int .i64 t5731.fCode, u5733], own kCoin 72 u5733 t5731.fCoins, own kOut 69 u5729 t5727, own kCoin 72 u5725 t5723] := HM.call hn
      refine ops_ex rfl (guard_none rfl) rfl rfl (ex_not rfl rfl) ?_
      refine ops_nil ?_
      refine at_then ?_
      refine run_cond (b := !t5766) rfl (fun hb5769 => ?_) (fun hb5769 => ?_)
      · replace H := cond_t hb5769 H
        refine run_seq ?_
        refine run_region rfl ?_
        refine ops_ex rfl (guard_none rfl) rfl rfl (ex_assign rfl rfl) ?_
        refine ops_nil ?_
        refine at_then ?_
        refine run_ret ?_
        refine at_then_ret ?_
        replace HM := (HM.front 0 rfl rfl).drop
        replace HM := (HM.front 0 rfl rfl).drop
        replace HM := (HM.front 0 rfl rfl).drop
        replace HM := (HM.front 0 rfl rfl).drop
        replace HM := (HM.front 0 rfl rfl).drop
        replace HM := (HM.front 0 rfl rfl).drop
        replace HM := (HM.front 0 rfl rfl).drop
        replace HM := (HM.front 0 rfl rfl).drop
        have hR := Option.some.inj H
        subst hR
        exact at_ret1 rfl rfl ⟨_, rfl, rfl, HM⟩
      · replace H := cond_f hb5769 H
        refine run_skip ?_
        refine at_then ?_
        refine run_seq ?_
        refine run_seq ?_
        obtain ⟨t5777, h5778, H⟩ := bind_some H
        obtain ⟨t5781, h5782, H⟩ := bind_some H
        refine run_region rfl ?_
        refine ops_ex rfl (guard_none rfl) rfl rfl (ex_move rfl rfl) ?_
        refine ops_ex rfl (guard_none rfl) rfl rfl (ex_move rfl rfl) ?_
        refine ops_does rfl (guard_none rfl) rfl rfl (does_callk rfl callok38 rfl (laws_toCoinS.calls (x0 := x0) (HM.rd hp0) h5778)) ?_
        rintro u5779 w5783 ⟨_, rfl, hn⟩
        replace HM : Mem w [] w5783 [own kCoin 72 u5779 t5777, box b5757 64 [.int .i64 t5753.fCode, u5755], own kCoin 72 u5755 t5753.fCoins, own kOut 69 u5750 t5748, own kCoin 72 u5745 t5743, box b5735 64 [.int .i64 t5731.fCode, u5733], own kCoin 72 u5733 t5731.fCoins, own kOut 69 u5729 t5727, own kCoin 72 u5725 t5723] := HM.call hn
        refine ops_does rfl (guard_none rfl) rfl rfl (does_callk rfl callok41 rfl (laws_eqCoinS.calls (x0 := t5743) (x1 := t5777) (HM.own_rd 4 rfl) (HM.own_rd 0 rfl) h5782)) ?_
        rintro _ w5784 ⟨rfl, hn⟩
        replace HM : Mem w [] w5784 [own kCoin 72 u5779 t5777, box b5757 64 [.int .i64 t5753.fCode, u5755], own kCoin 72 u5755 t5753.fCoins, own kOut 69 u5750 t5748, own kCoin 72 u5745 t5743, box b5735 64 [.int .i64 t5731.fCode, u5733], own kCoin 72 u5733 t5731.fCoins, own kOut 69 u5729 t5727, own kCoin 72 u5725 t5723] := HM.call hn
        refine ops_ex rfl (guard_none rfl) rfl rfl (ex_not rfl rfl) ?_
        refine ops_nil ?_
        refine at_then ?_
        refine run_cond (b := !t5781) rfl (fun hb5785 => ?_) (fun hb5785 => ?_)
        · replace H := cond_t hb5785 H
          refine run_seq ?_
          refine run_region rfl ?_
          refine ops_ex rfl (guard_none rfl) rfl rfl (ex_assign rfl rfl) ?_
          refine ops_nil ?_
          refine at_then ?_
          refine run_ret ?_
          refine at_then_ret ?_
          replace HM := (HM.front 0 rfl rfl).drop
          replace HM := (HM.front 0 rfl rfl).drop
          replace HM := (HM.front 0 rfl rfl).drop
          replace HM := (HM.front 0 rfl rfl).drop
          replace HM := (HM.front 0 rfl rfl).drop
          replace HM := (HM.front 0 rfl rfl).drop
          replace HM := (HM.front 0 rfl rfl).drop
          replace HM := (HM.front 0 rfl rfl).drop
          replace HM := (HM.front 0 rfl rfl).drop
          have hR := Option.some.inj H
          subst hR
          exact at_ret1 rfl rfl ⟨_, rfl, rfl, HM⟩
        · replace H := cond_f hb5785 H
          refine run_skip ?_
          refine at_then ?_
          refine run_seq ?_
          refine run_seq ?_
          obtain ⟨t5793, h5794, H⟩ := bind_some H
          obtain ⟨t5797, h5798, H⟩ := bind_some H
          refine run_region rfl ?_
          refine ops_ex rfl (guard_none rfl) rfl rfl (ex_move rfl rfl) ?_
          refine ops_ex rfl (guard_none rfl) rfl rfl (ex_move rfl rfl) ?_
          refine ops_does rfl (guard_none rfl) rfl rfl (does_callk rfl callok39 rfl (laws_toOutS.calls (x0 := x2) (HM.rd hp2) h5794)) ?_
          rintro u5795 w5799 ⟨_, rfl, hn⟩
          replace HM : Mem w [] w5799 [own kOut 69 u5795 t5793, own kCoin 72 u5779 t5777, box b5757 64 [.int .i64 t5753.fCode, u5755], own kCoin 72 u5755 t5753.fCoins, own kOut 69 u5750 t5748, own kCoin 72 u5745 t5743, box b5735 64 [.int .i64 t5731.fCode, u5733], own kCoin 72 u5733 t5731.fCoins, own kOut 69 u5729 t5727, own kCoin 72 u5725 t5723] := HM.call hn
          refine ops_does rfl (guard_none rfl) rfl rfl (does_callk rfl callok42 rfl (laws_eqOutS.calls (x0 := t5748) (x1 := t5793) (HM.own_rd 4 rfl) (HM.own_rd 0 rfl) h5798)) ?_
          rintro _ w5800 ⟨rfl, hn⟩
          replace HM : Mem w [] w5800 [own kOut 69 u5795 t5793, own kCoin 72 u5779 t5777, box b5757 64 [.int .i64 t5753.fCode, u5755], own kCoin 72 u5755 t5753.fCoins, own kOut 69 u5750 t5748, own kCoin 72 u5745 t5743, box b5735 64 [.int .i64 t5731.fCode, u5733], own kCoin 72 u5733 t5731.fCoins, own kOut 69 u5729 t5727, own kCoin 72 u5725 t5723] := HM.call hn
          refine ops_ex rfl (guard_none rfl) rfl rfl (ex_not rfl rfl) ?_
          refine ops_nil ?_
          refine at_then ?_
          refine run_cond (b := !t5797) rfl (fun hb5801 => ?_) (fun hb5801 => ?_)
          · replace H := cond_t hb5801 H
            refine run_seq ?_
            refine run_region rfl ?_
            refine ops_ex rfl (guard_none rfl) rfl rfl (ex_assign rfl rfl) ?_
            refine ops_nil ?_
            refine at_then ?_
            refine run_ret ?_
            refine at_then_ret ?_
            replace HM := (HM.front 0 rfl rfl).drop
            replace HM := (HM.front 0 rfl rfl).drop
            replace HM := (HM.front 0 rfl rfl).drop
            replace HM := (HM.front 0 rfl rfl).drop
            replace HM := (HM.front 0 rfl rfl).drop
            replace HM := (HM.front 0 rfl rfl).drop
            replace HM := (HM.front 0 rfl rfl).drop
            replace HM := (HM.front 0 rfl rfl).drop
            replace HM := (HM.front 0 rfl rfl).drop
            replace HM := (HM.front 0 rfl rfl).drop
            have hR := Option.some.inj H
            subst hR
            exact at_ret1 rfl rfl ⟨_, rfl, rfl, HM⟩
          · replace H := cond_f hb5801 H
            refine run_skip ?_
            refine at_then ?_
            refine run_seq ?_
            refine run_region rfl ?_
            refine ops_ex rfl (guard_none rfl) rfl rfl (ex_assign rfl rfl) ?_
            refine ops_nil ?_
            refine at_then ?_
            refine run_seq ?_
            obtain ⟨t5802, h5803, H⟩ := bind_some H
            refine run_region rfl ?_
            refine ops_ex rfl (guard_none rfl) rfl rfl (ex_move rfl rfl) ?_
            refine ops_ex rfl (guard_none rfl) rfl rfl (ex_move rfl rfl) ?_
            replace HM := HM.front 5 rfl rfl
            obtain ⟨F5804, hF5805, hFn5806, hFl5807, HMh5808, hcl5809⟩ := HM.hide (Ms := [own kCoin 72 u5745 t5743])
            refine ops_does rfl (guard_none rfl) rfl rfl (does_callk rfl callok43 rfl (laws_markCoinS.calls (x0 := t5743) (x1 := 1) (hide_olds _ _) hF5805 hFn5806 hFl5807 h5803)) ?_
            rintro _ w5810 ⟨rfl, hn⟩
            replace HM : Mem w [] w5810 [own kCoin 72 u5745 t5802.2, own kOut 69 u5795 t5793, own kCoin 72 u5779 t5777, box b5757 64 [.int .i64 t5753.fCode, u5755], own kCoin 72 u5755 t5753.fCoins, own kOut 69 u5750 t5748, box b5735 64 [.int .i64 t5731.fCode, u5733], own kCoin 72 u5733 t5731.fCoins, own kOut 69 u5729 t5727, own kCoin 72 u5725 t5723] := hcl5809 _ _ hn
            refine ops_ex rfl (guard_none rfl) rfl rfl (ex_assign rfl rfl) ?_
            refine ops_nil ?_
            refine at_then ?_
            refine run_seq ?_
            obtain ⟨t5811, h5812, H⟩ := bind_some H
            refine run_region rfl ?_
            refine ops_ex rfl (guard_none rfl) rfl rfl (ex_move rfl rfl) ?_
            refine ops_ex rfl (guard_none rfl) rfl rfl (ex_move rfl rfl) ?_
            replace HM := HM.front 5 rfl rfl
            obtain ⟨F5813, hF5814, hFn5815, hFl5816, HMh5817, hcl5818⟩ := HM.hide (Ms := [own kOut 69 u5750 t5748])
            refine ops_does rfl (guard_none rfl) rfl rfl (does_callk rfl callok44 rfl (laws_markOutS.calls (x0 := t5748) (x1 := t5802.1) (hide_olds _ _) hF5814 hFn5815 hFl5816 h5812)) ?_
            rintro _ w5819 ⟨rfl, hn⟩
            replace HM : Mem w [] w5819 [own kOut 69 u5750 t5811.2, own kCoin 72 u5745 t5802.2, own kOut 69 u5795 t5793, own kCoin 72 u5779 t5777, box b5757 64 [.int .i64 t5753.fCode, u5755], own kCoin 72 u5755 t5753.fCoins, box b5735 64 [.int .i64 t5731.fCode, u5733], own kCoin 72 u5733 t5731.fCoins, own kOut 69 u5729 t5727, own kCoin 72 u5725 t5723] := hcl5818 _ _ hn
            refine ops_ex rfl (guard_none rfl) rfl rfl (ex_assign rfl rfl) ?_
            refine ops_nil ?_
            refine at_then ?_
            refine run_seq ?_
            refine run_seq ?_
            obtain ⟨t5823, h5824, H⟩ := bind_some H
            refine run_meet (fun ρ_ w_ => ρ_ = [(0, p0), (1, .int .i64 x1), (2, p2), (3, .int .i64 x3), (4, .bool x4), (12, .pointer (some ⟨b5735, 0, none⟩)), (15, .pointer (some ⟨b5757, 0, none⟩)), (75, .bool ((decide (t5811.1 < 0)) || (!t5823)))] ∧ Mem w [] w_ [box b5735 64 [.int .i64 t5731.fCode, u5733], own kCoin 72 u5733 t5731.fCoins, box b5757 64 [.int .i64 t5753.fCode, u5755], own kCoin 72 u5755 t5753.fCoins]) ?_ ?_
            · skip
              refine run_region rfl ?_
              refine ops_ex rfl (guard_none rfl) rfl rfl (ex_move rfl rfl) ?_
              refine ops_ex rfl (guard_none rfl) rfl rfl (ex_lss rfl rfl rfl) ?_
              refine ops_ex rfl (guard_none rfl) rfl rfl (ex_move rfl rfl) ?_
              refine bool_cases (decide (t5811.1 < 0)) (fun hg5825 => ?_) (fun hg5825 => ?_)
              · skip
                refine ops_off rfl (guard_off rfl rfl rfl hg5825) rfl rfl ?_
                refine ops_off rfl (guard_off rfl rfl rfl hg5825) rfl rfl ?_
                refine ops_off rfl (guard_off rfl rfl rfl hg5825) rfl rfl ?_
                refine ops_off rfl (guard_off rfl rfl rfl hg5825) rfl rfl ?_
                have hg5826 : ((decide (t5811.1 < 0)) || (!t5823)) = true := by simp only [hg5825, Bool.and_true, Bool.true_and, Bool.and_false, Bool.false_and, Bool.or_true, Bool.true_or, Bool.or_false, Bool.false_or, Bool.not_true, Bool.not_false, Bool.not_not]
                refine ops_ex (v := .bool ((decide (t5811.1 < 0)) || (!t5823))) rfl (guard_none rfl) rfl rfl (ex_por_t rfl rfl hg5825) ?_
                refine ops_nil ?_
                replace HM := (HM.front 0 rfl rfl).drop
                replace HM := (HM.front 0 rfl rfl).drop
                replace HM := (HM.front 0 rfl rfl).drop
                replace HM := (HM.front 0 rfl rfl).drop
                replace HM := (HM.front 4 rfl rfl).drop
                replace HM := (HM.front 4 rfl rfl).drop
                replace HM := HM.front 1 rfl rfl
                replace HM := HM.front 1 rfl rfl
                replace HM := HM.front 3 rfl rfl
                replace HM := HM.front 3 rfl rfl
                exact at_meet [(0, p0), (1, .int .i64 x1), (2, p2), (3, .int .i64 x3), (4, .bool x4), (12, .pointer (some ⟨b5735, 0, none⟩)), (15, .pointer (some ⟨b5757, 0, none⟩)), (75, .bool ((decide (t5811.1 < 0)) || (!t5823)))] ⟨rfl, HM⟩ (Sub.cons rfl (Sub.cons rfl (Sub.cons rfl (Sub.cons rfl (Sub.cons rfl (Sub.cons rfl (Sub.cons rfl (Sub.cons rfl Sub.nil))))))))
              · skip
                refine ops_ex rfl (guard_on rfl rfl rfl hg5825) rfl rfl (ex_loadN (cs := [(.int .i64 t5753.fCode), u5755]) rfl rfl Try.underlying64 rfl tsz64 rfl ((HM.box_at 4 rfl).sub 0 2 rfl)) ?_
                refine ops_ex rfl (guard_on rfl rfl rfl hg5825) rfl rfl (ex_loadN (cs := [(.int .i64 t5731.fCode), u5733]) rfl rfl Try.underlying64 rfl tsz64 rfl ((HM.box_at 6 rfl).sub 0 2 rfl)) ?_
                refine ops_does rfl (guard_on rfl rfl rfl hg5825) rfl rfl (does_callk rfl callok40 rfl (laws_eqCoinsResult.calls (x0 := t5753) (x1 := t5731) (HM.own_rd 5 rfl) (HM.own_rd 7 rfl) (cond_t (not_mk hg5825) h5824))) ?_
                rintro _ w5827 ⟨rfl, hn⟩
                replace HM : Mem w [] w5827 [own kOut 69 u5750 t5811.2, own kCoin 72 u5745 t5802.2, own kOut 69 u5795 t5793, own kCoin 72 u5779 t5777, box b5757 64 [.int .i64 t5753.fCode, u5755], own kCoin 72 u5755 t5753.fCoins, box b5735 64 [.int .i64 t5731.fCode, u5733], own kCoin 72 u5733 t5731.fCoins, own kOut 69 u5729 t5727, own kCoin 72 u5725 t5723] := HM.call hn
                refine ops_ex rfl (guard_on rfl rfl rfl hg5825) rfl rfl (ex_not rfl rfl) ?_
                refine ops_ex (v := .bool ((decide (t5811.1 < 0)) || (!t5823))) rfl (guard_none rfl) rfl rfl (ex_por_f rfl rfl hg5825 rfl) ?_
                refine ops_nil ?_
                replace HM := (HM.front 0 rfl rfl).drop
                replace HM := (HM.front 0 rfl rfl).drop
                replace HM := (HM.front 0 rfl rfl).drop
                replace HM := (HM.front 0 rfl rfl).drop
                replace HM := (HM.front 4 rfl rfl).drop
                replace HM := (HM.front 4 rfl rfl).drop
                replace HM := HM.front 1 rfl rfl
                replace HM := HM.front 1 rfl rfl
                replace HM := HM.front 3 rfl rfl
                replace HM := HM.front 3 rfl rfl
                exact at_meet [(0, p0), (1, .int .i64 x1), (2, p2), (3, .int .i64 x3), (4, .bool x4), (12, .pointer (some ⟨b5735, 0, none⟩)), (15, .pointer (some ⟨b5757, 0, none⟩)), (75, .bool ((decide (t5811.1 < 0)) || (!t5823)))] ⟨rfl, HM⟩ (Sub.cons rfl (Sub.cons rfl (Sub.cons rfl (Sub.cons rfl (Sub.cons rfl (Sub.cons rfl (Sub.cons rfl (Sub.cons rfl Sub.nil))))))))
            · rintro _ w5828 ⟨rfl, HM⟩
              refine at_then ?_
              refine run_cond (b := ((decide (t5811.1 < 0)) || (!t5823))) rfl (fun hb5829 => ?_) (fun hb5829 => ?_)
              · replace H := cond_t hb5829 H
                refine run_seq ?_
                refine run_region rfl ?_
                refine ops_ex rfl (guard_none rfl) rfl rfl (ex_assign rfl rfl) ?_
                refine ops_nil ?_
                refine at_then ?_
                refine run_ret ?_
                refine at_then_ret ?_
                replace HM := (HM.front 0 rfl rfl).drop
                replace HM := (HM.front 0 rfl rfl).drop
                replace HM := (HM.front 0 rfl rfl).drop
                replace HM := (HM.front 0 rfl rfl).drop
                have hR := Option.some.inj H
                subst hR
                exact at_ret1 rfl rfl ⟨_, rfl, rfl, HM⟩
              · replace H := cond_f hb5829 H
                refine run_skip ?_
                refine at_then ?_
                refine run_seq ?_
                refine run_region rfl ?_
                refine ops_ex rfl (guard_none rfl) rfl rfl (ex_assign rfl rfl) ?_
                refine ops_nil ?_
                refine at_then ?_
                refine run_seq ?_
                obtain ⟨t5830, h5831, H⟩ := bind_some H
                refine run_region rfl ?_
                refine ops_ex rfl (guard_none rfl) rfl rfl (ex_loadN (cs := [(.int .i64 t5753.fCode), u5755]) rfl rfl Try.underlying64 rfl tsz64 rfl ((HM.box_at 2 rfl).sub 0 2 rfl)) ?_
                refine ops_ex rfl (guard_none rfl) rfl rfl (ex_move rfl rfl) ?_
                replace HM := HM.front 3 rfl rfl
                obtain ⟨F5832, hF5833, hFn5834, hFl5835, HMh5836, hcl5837⟩ := HM.hide (Ms := [own kCoin 72 u5755 t5753.fCoins])
                refine ops_does rfl (guard_none rfl) rfl rfl (does_callk rfl callok45 rfl (laws_markCoinsResult.calls (x0 := t5753) (x1 := 1) (hide_olds _ _) hF5833 hFn5834 hFl5835 h5831)) ?_
                rintro _ w5838 ⟨rfl, hn⟩
                replace HM : Mem w [] w5838 [own kCoin 72 u5755 t5830.2, box b5735 64 [.int .i64 t5731.fCode, u5733], own kCoin 72 u5733 t5731.fCoins, box b5757 64 [.int .i64 t5753.fCode, u5755]] := hcl5837 _ _ hn
                refine ops_ex rfl (guard_none rfl) rfl rfl (ex_assign rfl rfl) ?_
                refine ops_nil ?_
                refine at_then ?_
                refine run_seq ?_
                refine run_region rfl ?_
                refine ops_ex rfl (guard_none rfl) rfl rfl (ex_assign rfl rfl) ?_
                refine ops_nil ?_
                refine at_then ?_
                refine run_seq ?_
                obtain ⟨t5839, h5840, H⟩ := bind_some H
                refine run_region rfl ?_
                refine ops_ex rfl (guard_none rfl) rfl rfl (ex_loadN (cs := [(.int .i64 t5753.fCode), u5755]) rfl rfl Try.underlying64 rfl tsz64 rfl ((HM.box_at 3 rfl).sub 0 2 rfl)) ?_
                refine ops_ex rfl (guard_none rfl) rfl rfl (ex_move rfl rfl) ?_
                refine ops_does rfl (guard_none rfl) rfl rfl (does_callk rfl callok46 rfl (laws_heldCoinsResult.calls (x0 := (⟨t5753.fCode, t5830.2⟩ : CoinsResult)) (x1 := 1) (HM.own_rd 0 rfl) h5840)) ?_
                rintro _ w5841 ⟨rfl, hn⟩
                replace HM : Mem w [] w5841 [own kCoin 72 u5755 t5830.2, box b5735 64 [.int .i64 t5731.fCode, u5733], own kCoin 72 u5733 t5731.fCoins, box b5757 64 [.int .i64 t5753.fCode, u5755]] := HM.call hn
                refine ops_ex rfl (guard_none rfl) rfl rfl (ex_assign rfl rfl) ?_
                refine ops_nil ?_
                refine at_then ?_
                refine run_seq ?_
                refine run_seq ?_
                refine run_region rfl ?_
                refine ops_ex rfl (guard_none rfl) rfl rfl (ex_move rfl rfl) ?_
                refine ops_ex rfl (guard_none rfl) rfl rfl (ex_lss rfl rfl rfl) ?_
                refine ops_nil ?_
                refine at_then ?_
                refine run_cond (b := (decide (t5839 < 0))) rfl (fun hb5843 => ?_) (fun hb5843 => ?_)
                · replace H := cond_t hb5843 H
                  refine run_seq ?_
                  refine run_region rfl ?_
                  refine ops_ex rfl (guard_none rfl) rfl rfl (ex_assign rfl rfl) ?_
                  refine ops_nil ?_
                  refine at_then ?_
                  refine run_ret ?_
                  refine at_then_ret ?_
                  replace HM := (HM.front 0 rfl rfl).drop
                  replace HM := (HM.front 0 rfl rfl).drop
                  replace HM := (HM.front 0 rfl rfl).drop
                  replace HM := (HM.front 0 rfl rfl).drop
                  have hR := Option.some.inj H
                  subst hR
                  exact at_ret1 rfl rfl ⟨_, rfl, rfl, HM⟩
                · replace H := cond_f hb5843 H
                  refine run_skip ?_
                  refine at_then ?_
                  refine run_seq ?_
                  refine run_seq ?_
                  refine run_region rfl ?_
                  refine ops_ex rfl (guard_none rfl) rfl rfl (ex_move rfl rfl) ?_
                  refine ops_ex rfl (guard_none rfl) rfl rfl (ex_move rfl rfl) ?_
                  refine ops_ex rfl (guard_none rfl) rfl rfl (ex_neq rfl rfl rfl) ?_
                  refine ops_nil ?_
                  refine at_then ?_
                  refine run_cond (b := (t5839 != t5830.1)) rfl (fun hb5845 => ?_) (fun hb5845 => ?_)
                  · replace H := cond_t hb5845 H
                    refine run_seq ?_
                    refine run_region rfl ?_
                    refine ops_ex rfl (guard_none rfl) rfl rfl (ex_assign rfl rfl) ?_
                    refine ops_nil ?_
                    refine at_then ?_
                    refine run_ret ?_
                    refine at_then_ret ?_
                    replace HM := (HM.front 0 rfl rfl).drop
                    replace HM := (HM.front 0 rfl rfl).drop
                    replace HM := (HM.front 0 rfl rfl).drop
                    replace HM := (HM.front 0 rfl rfl).drop
                    have hR := Option.some.inj H
                    subst hR
                    exact at_ret1 rfl rfl ⟨_, rfl, rfl, HM⟩
                  · replace H := cond_f hb5845 H
                    refine run_skip ?_
                    refine at_then ?_
                    refine run_seq ?_
                    obtain ⟨t5846, h5847, H⟩ := bind_some H
                    obtain ⟨t5850, h5851, H⟩ := bind_some H
                    obtain ⟨t5854, h5855, H⟩ := bind_some H
                    refine run_region rfl ?_
                    refine ops_ex rfl (guard_none rfl) rfl rfl (ex_move rfl rfl) ?_
                    refine ops_does rfl (guard_none rfl) rfl rfl (does_callk rfl callok38 rfl (laws_toCoinS.calls (x0 := x0) (HM.rd hp0) h5847)) ?_
                    rintro u5848 w5861 ⟨_, rfl, hn⟩
                    replace HM : Mem w [] w5861 [own kCoin 72 u5848 t5846, own kCoin 72 u5755 t5830.2, box b5735 64 [.int .i64 t5731.fCode, u5733], own kCoin 72 u5733 t5731.fCoins, box b5757 64 [.int .i64 t5753.fCode, u5755]] := HM.call hn
                    refine ops_ex rfl (guard_none rfl) rfl rfl (ex_move rfl rfl) ?_
                    refine ops_ex rfl (guard_none rfl) rfl rfl (ex_move rfl rfl) ?_
                    refine ops_does rfl (guard_none rfl) rfl rfl (does_callk rfl callok39 rfl (laws_toOutS.calls (x0 := x2) (HM.rd hp2) h5851)) ?_
                    rintro u5852 w5862 ⟨_, rfl, hn⟩
                    replace HM : Mem w [] w5862 [own kOut 69 u5852 t5850, own kCoin 72 u5848 t5846, own kCoin 72 u5755 t5830.2, box b5735 64 [.int .i64 t5731.fCode, u5733], own kCoin 72 u5733 t5731.fCoins, box b5757 64 [.int .i64 t5753.fCode, u5755]] := HM.call hn
                    refine ops_ex rfl (guard_none rfl) rfl rfl (ex_move rfl rfl) ?_
                    refine ops_ex rfl (guard_none rfl) rfl rfl (ex_move rfl rfl) ?_
                    refine ops_does rfl (guard_none rfl) rfl rfl (does_callk rfl callok27 rfl (impl_PutCoins.calls (x0 := t5846) (x1 := x1) (x2 := t5850) (x3 := x3) (x4 := x4) (HM.own_rd 1 rfl) (HM.own_rd 0 rfl) h5855)) ?_
                    rintro _ w5863 ⟨u5856, rfl, hn⟩
                    replace HM : Mem w [] w5863 [own kCoin 72 u5856 t5854.fCoins, own kOut 69 u5852 t5850, own kCoin 72 u5848 t5846, own kCoin 72 u5755 t5830.2, box b5735 64 [.int .i64 t5731.fCode, u5733], own kCoin 72 u5733 t5731.fCoins, box b5757 64 [.int .i64 t5753.fCode, u5755]] := HM.call hn
                    refine ops_does rfl (guard_none rfl) rfl rfl (does_alloc (cs := [.int .i64 0, .slice none 0 0]) rfl tz64 rfl HM) ?_
                    rintro _ w5864 ⟨b5858, rfl, HM⟩
                    refine ops_doesS rfl (guard_none rfl) rfl (does_store (vs := [.int .i64 t5854.fCode, u5856]) (cs' := [.int .i64 t5854.fCode, u5856]) rfl rfl rfl rfl tsz64 (Ones.int (Ones.rd (HM.own_rd 1 rfl) Ones.nil)) rfl rfl HM) ?_
                    rintro w5865 HM
                    refine ops_nil ?_
                    refine at_then ?_
                    refine run_seq ?_
                    refine run_seq ?_
                    obtain ⟨t5869, h5870, H⟩ := bind_some H
                    refine run_region rfl ?_
                    refine ops_ex rfl (guard_none rfl) rfl rfl (ex_loadN (cs := [(.int .i64 t5854.fCode), u5856]) rfl rfl Try.underlying64 rfl tsz64 rfl ((HM.box_at 0 rfl).sub 0 2 rfl)) ?_
                    refine ops_ex rfl (guard_none rfl) rfl rfl (ex_loadN (cs := [(.int .i64 t5731.fCode), u5733]) rfl rfl Try.underlying64 rfl tsz64 rfl ((HM.box_at 5 rfl).sub 0 2 rfl)) ?_
                    refine ops_does rfl (guard_none rfl) rfl rfl (does_callk rfl callok40 rfl (laws_eqCoinsResult.calls (x0 := t5854) (x1 := t5731) (HM.own_rd 1 rfl) (HM.own_rd 6 rfl) h5870)) ?_
                    rintro _ w5871 ⟨rfl, hn⟩
                    replace HM : Mem w [] w5871 [box b5858 64 [.int .i64 t5854.fCode, u5856], own kCoin 72 u5856 t5854.fCoins, own kOut 69 u5852 t5850, own kCoin 72 u5848 t5846, own kCoin 72 u5755 t5830.2, box b5735 64 [.int .i64 t5731.fCode, u5733], own kCoin 72 u5733 t5731.fCoins, box b5757 64 [.int .i64 t5753.fCode, u5755]] := HM.call hn
                    refine ops_ex rfl (guard_none rfl) rfl rfl (ex_not rfl rfl) ?_
                    refine ops_nil ?_
                    refine at_then ?_
                    refine run_cond (b := !t5869) rfl (fun hb5872 => ?_) (fun hb5872 => ?_)
                    · replace H := cond_t hb5872 H
                      refine run_seq ?_
                      refine run_region rfl ?_
                      refine ops_ex rfl (guard_none rfl) rfl rfl (ex_assign rfl rfl) ?_
                      refine ops_nil ?_
                      refine at_then ?_
                      refine run_ret ?_
                      refine at_then_ret ?_
                      replace HM := (HM.front 0 rfl rfl).drop
                      replace HM := (HM.front 0 rfl rfl).drop
                      replace HM := (HM.front 0 rfl rfl).drop
                      replace HM := (HM.front 0 rfl rfl).drop
                      replace HM := (HM.front 0 rfl rfl).drop
                      replace HM := (HM.front 0 rfl rfl).drop
                      replace HM := (HM.front 0 rfl rfl).drop
                      replace HM := (HM.front 0 rfl rfl).drop
                      have hR := Option.some.inj H
                      subst hR
                      exact at_ret1 rfl rfl ⟨_, rfl, rfl, HM⟩
                    · replace H := cond_f hb5872 H
                      refine run_skip ?_
                      refine at_then ?_
                      refine run_seq ?_
                      refine run_region rfl ?_
                      refine ops_ex rfl (guard_none rfl) rfl rfl (ex_assign rfl rfl) ?_
                      refine ops_nil ?_
                      refine at_then ?_
                      refine run_seq ?_
                      obtain ⟨t5873, h5874, H⟩ := bind_some H
                      refine run_region rfl ?_
                      refine ops_ex rfl (guard_none rfl) rfl rfl (ex_loadN (cs := [(.int .i64 t5753.fCode), u5755]) rfl rfl Try.underlying64 rfl tsz64 rfl ((HM.box_at 7 rfl).sub 0 2 rfl)) ?_
                      refine ops_ex rfl (guard_none rfl) rfl rfl (ex_move rfl rfl) ?_
                      refine ops_does rfl (guard_none rfl) rfl rfl (does_callk rfl callok46 rfl (laws_heldCoinsResult.calls (x0 := (⟨t5753.fCode, t5830.2⟩ : CoinsResult)) (x1 := 1) (HM.own_rd 4 rfl) h5874)) ?_
                      rintro _ w5875 ⟨rfl, hn⟩
                      replace HM : Mem w [] w5875 [box b5858 64 [.int .i64 t5854.fCode, u5856], own kCoin 72 u5856 t5854.fCoins, own kOut 69 u5852 t5850, own kCoin 72 u5848 t5846, own kCoin 72 u5755 t5830.2, box b5735 64 [.int .i64 t5731.fCode, u5733], own kCoin 72 u5733 t5731.fCoins, box b5757 64 [.int .i64 t5753.fCode, u5755]] := HM.call hn
                      refine ops_ex rfl (guard_none rfl) rfl rfl (ex_assign rfl rfl) ?_
                      refine ops_nil ?_
                      refine at_then ?_
                      refine run_seq ?_
                      refine run_seq ?_
                      refine run_region rfl ?_
                      refine ops_ex rfl (guard_none rfl) rfl rfl (ex_move rfl rfl) ?_
                      refine ops_ex rfl (guard_none rfl) rfl rfl (ex_lss rfl rfl rfl) ?_
                      refine ops_nil ?_
                      refine at_then ?_
                      refine run_cond (b := (decide (t5873 < 0))) rfl (fun hb5877 => ?_) (fun hb5877 => ?_)
                      · replace H := cond_t hb5877 H
                        refine run_seq ?_
                        refine run_region rfl ?_
                        refine ops_ex rfl (guard_none rfl) rfl rfl (ex_assign rfl rfl) ?_
                        refine ops_nil ?_
                        refine at_then ?_
                        refine run_ret ?_
                        refine at_then_ret ?_
                        replace HM := (HM.front 0 rfl rfl).drop
                        replace HM := (HM.front 0 rfl rfl).drop
                        replace HM := (HM.front 0 rfl rfl).drop
                        replace HM := (HM.front 0 rfl rfl).drop
                        replace HM := (HM.front 0 rfl rfl).drop
                        replace HM := (HM.front 0 rfl rfl).drop
                        replace HM := (HM.front 0 rfl rfl).drop
                        replace HM := (HM.front 0 rfl rfl).drop
                        have hR := Option.some.inj H
                        subst hR
                        exact at_ret1 rfl rfl ⟨_, rfl, rfl, HM⟩
                      · replace H := cond_f hb5877 H
                        refine run_skip ?_
                        refine at_then ?_
                        refine run_seq ?_
                        refine run_seq ?_
                        refine run_region rfl ?_
                        refine ops_ex rfl (guard_none rfl) rfl rfl (ex_move rfl rfl) ?_
                        refine ops_ex rfl (guard_none rfl) rfl rfl (ex_move rfl rfl) ?_
                        refine ops_ex rfl (guard_none rfl) rfl rfl (ex_neq rfl rfl rfl) ?_
                        refine ops_nil ?_
                        refine at_then ?_
                        refine run_cond (b := (t5873 != t5830.1)) rfl (fun hb5878 => ?_) (fun hb5878 => ?_)
                        · replace H := cond_t hb5878 H
                          refine run_seq ?_
                          refine run_region rfl ?_
                          refine ops_ex rfl (guard_none rfl) rfl rfl (ex_assign rfl rfl) ?_
                          refine ops_nil ?_
                          refine at_then ?_
                          refine run_ret ?_
                          refine at_then_ret ?_
                          replace HM := (HM.front 0 rfl rfl).drop
                          replace HM := (HM.front 0 rfl rfl).drop
                          replace HM := (HM.front 0 rfl rfl).drop
                          replace HM := (HM.front 0 rfl rfl).drop
                          replace HM := (HM.front 0 rfl rfl).drop
                          replace HM := (HM.front 0 rfl rfl).drop
                          replace HM := (HM.front 0 rfl rfl).drop
                          replace HM := (HM.front 0 rfl rfl).drop
                          have hR := Option.some.inj H
                          subst hR
                          exact at_ret1 rfl rfl ⟨_, rfl, rfl, HM⟩
                        · replace H := cond_f hb5878 H
                          refine run_skip ?_
                          refine at_then ?_
                          refine run_seq ?_
                          refine run_region rfl ?_
                          refine ops_ex rfl (guard_none rfl) rfl rfl (ex_assign rfl rfl) ?_
                          refine ops_nil ?_
                          refine at_then ?_
                          refine run_ret ?_
                          replace HM := (HM.front 0 rfl rfl).drop
                          replace HM := (HM.front 0 rfl rfl).drop
                          replace HM := (HM.front 0 rfl rfl).drop
                          replace HM := (HM.front 0 rfl rfl).drop
                          replace HM := (HM.front 0 rfl rfl).drop
                          replace HM := (HM.front 0 rfl rfl).drop
                          replace HM := (HM.front 0 rfl rfl).drop
                          replace HM := (HM.front 0 rfl rfl).drop
                          have hR := Option.some.inj H
                          subst hR
                          exact at_ret1 rfl rfl ⟨_, rfl, rfl, HM⟩
end Go.Proofs.Ytbbcabpnkdilgaa.Zk
