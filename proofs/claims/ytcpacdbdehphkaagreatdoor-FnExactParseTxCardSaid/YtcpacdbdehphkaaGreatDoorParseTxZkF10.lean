/- What functions of the program compute, each as a plain function, and that they do. Conditions: as each theorem states them. -/
import Derived.Test.YtcpacdbdehphkaaGreatDoorParseTxZkF9
namespace Go.Proofs.YtcpacdbdehphkaaGreatDoor.Zk
open Go Go.RowKit Go.IntWalk Go.Proofs
set_option linter.unusedVariables false
set_option linter.unusedSimpArgs false
set_option maxRecDepth 100000
set_option maxHeartbeats 4000000
def laws_heldTxResult.f (k : Nat) (x0 : TxResult) (x1 : Int) : Option Int := ((laws_heldTx.f k x0.fTx x1).bind fun t6297 => (bif (decide (t6297 < 0)) then some (-1) else some t6297))
theorem laws_heldTxResult.calls {k : Nat} {x0 : TxResult} {x1 : Int} {p0_0 : Value} {p0_1 : Value} {w : World} (hp0_0 : RdS kRef w p0_0 x0.fTx.fIns) (hp0_1 : RdS kOut w p0_1 x0.fTx.fOuts) {r : Int} (H : laws_heldTxResult.f k x0 x1 = some r) :
    Calls Tryz.prog 8 ([.agg #[(.int .i64 x0.fCode), (.int .i64 x0.fTx.fKind), (.int .i64 x0.fTx.fMember), p0_0, p0_1], .int .i64 x1] : List Value).toArray w (fun e w_ => ∃ v, e = .returned v ∧ v = (.int .i64 r) ∧ Mem w [] w_ []) := by
  have HM := Mem.start w
  refine calls_run (N := 12) Tryz.func8 rfl rfl rfl rfl ?_
  unfold laws_heldTxResult.f at H
  refine run_seq ?_
  refine run_region rfl ?_
  refine ops_does rfl (guard_none rfl) rfl rfl (does_box (cs := [.int .i64 x0.fCode, .int .i64 x0.fTx.fKind, .int .i64 x0.fTx.fMember, p0_0, p0_1]) rfl rfl rfl HM) ?_
  rintro _ w6296 ⟨b6293, rfl, HM⟩
  refine ops_ex rfl (guard_none rfl) rfl rfl (ex_assign rfl rfl) ?_
  refine ops_nil ?_
  refine at_then ?_
  refine run_seq ?_
  obtain ⟨t6297, h6298, H⟩ := bind_some H
  refine run_region rfl ?_
  refine ops_ex rfl (guard_none rfl) rfl rfl (ex_fieldAddr (off' := 1) rfl rfl Tryz.underlying27 rfl tsz25 rfl) ?_
  refine ops_ex rfl (guard_none rfl) rfl rfl (ex_loadN (cs := [(.int .i64 x0.fTx.fKind), (.int .i64 x0.fTx.fMember), p0_0, p0_1]) rfl rfl Tryz.underlying25 rfl tsz25 rfl ((HM.box_at 0 rfl).sub 1 4 rfl)) ?_
  refine ops_ex rfl (guard_none rfl) rfl rfl (ex_move rfl rfl) ?_
  refine ops_does rfl (guard_none rfl) rfl rfl (does_callk rfl callok13 rfl (laws_heldTx.calls (x0 := x0.fTx) (x1 := x1) (HM.rd hp0_0) (HM.rd hp0_1) h6298)) ?_
  rintro _ w6299 ⟨rfl, hn⟩
  replace HM : Mem w [] w6299 [box b6293 27 [.int .i64 x0.fCode, .int .i64 x0.fTx.fKind, .int .i64 x0.fTx.fMember, p0_0, p0_1]] := HM.call hn
  refine ops_ex rfl (guard_none rfl) rfl rfl (ex_assign rfl rfl) ?_
  refine ops_nil ?_
  refine at_then ?_
  refine run_seq ?_
  refine run_seq ?_
  refine run_region rfl ?_
  refine ops_ex rfl (guard_none rfl) rfl rfl (ex_move rfl rfl) ?_
  refine ops_ex rfl (guard_none rfl) rfl rfl (ex_lss rfl rfl rfl) ?_
  refine ops_nil ?_
  refine at_then ?_
  refine run_cond (b := (decide (t6297 < 0))) rfl (fun hb6300 => ?_) (fun hb6300 => ?_)
  · replace H := cond_t hb6300 H
    refine run_seq ?_
    refine run_region rfl ?_
    refine ops_ex rfl (guard_none rfl) rfl rfl (ex_assign rfl rfl) ?_
    refine ops_nil ?_
    refine at_then ?_
    refine run_ret ?_
    refine at_then_ret ?_
    replace HM := (HM.front 0 rfl rfl).drop
    have hR := Option.some.inj H
    subst hR
    exact at_ret1 rfl rfl ⟨_, rfl, rfl, HM⟩
  · replace H := cond_f hb6300 H
    refine run_skip ?_
    refine at_then ?_
    refine run_seq ?_
    refine run_region rfl ?_
    refine ops_ex rfl (guard_none rfl) rfl rfl (ex_move rfl rfl) ?_
    refine ops_ex rfl (guard_none rfl) rfl rfl (ex_assign rfl rfl) ?_
    refine ops_nil ?_
    refine at_then ?_
    refine run_ret ?_
    replace HM := (HM.front 0 rfl rfl).drop
    have hR := Option.some.inj H
    subst hR
    exact at_ret1 rfl rfl ⟨_, rfl, rfl, HM⟩

def laws_FnExactParseTx.f (k : Nat) (x0 : ByteArray) : Option Bool := (bif (decide (1048576 < (x0.size : Int))) then some true else ((spec_ParseTx.f k x0).bind fun t6329 => ((impl_ParseTx.f k x0).bind fun t6341 => ((laws_eqTxResult.f k t6341 t6329).bind fun t6356 => (bif !t6356 then some false else ((laws_markTxResult.f k t6341 1).bind fun t6360 => ((laws_heldTxResult.f k (⟨t6341.fCode, (⟨t6341.fTx.fKind, t6341.fTx.fMember, t6360.2.1, t6360.2.2⟩ : Tx)⟩ : TxResult) 1).bind fun t6369 => (bif (decide (t6369 < 0)) then some false else (bif (t6369 != t6360.1) then some false else ((impl_ParseTx.f k x0).bind fun t6376 => ((laws_eqTxResult.f k t6376 t6329).bind fun t6391 => (bif !t6391 then some false else ((laws_heldTxResult.f k (⟨t6341.fCode, (⟨t6341.fTx.fKind, t6341.fTx.fMember, t6360.2.1, t6360.2.2⟩ : Tx)⟩ : TxResult) 1).bind fun t6395 => (bif (decide (t6395 < 0)) then some false else (bif (t6395 != t6360.1) then some false else some true)))))))))))))))
theorem laws_FnExactParseTx.calls {k : Nat} {x0 : ByteArray}  {w : World} (htab : TabP w)  {r : Bool} (H : laws_FnExactParseTx.f k x0 = some r) :
    Calls Tryz.prog 3 ([.string x0] : List Value).toArray w (fun e w_ => ∃ v, e = .returned v ∧ v = (.bool r) ∧ Mem w [] w_ []) := by
  have HM := Mem.start w
  refine calls_run (N := 44) Tryz.func3 rfl rfl rfl rfl ?_
  unfold laws_FnExactParseTx.f at H
  refine run_seq ?_
  refine run_region rfl ?_
  refine ops_ex rfl (guard_none rfl) rfl rfl (ex_assign rfl rfl) ?_
  refine ops_nil ?_
  refine at_then ?_
  refine run_seq ?_
  refine run_seq ?_
  refine run_region rfl ?_
  refine ops_ex rfl (guard_none rfl) rfl rfl (ex_move rfl rfl) ?_
  refine ops_ex rfl (guard_none rfl) rfl rfl (ex_strlen rfl rfl Tryz.underlying9) ?_
  refine ops_ex rfl (guard_none rfl) rfl rfl (ex_gtr rfl rfl rfl) ?_
  refine ops_nil ?_
  refine at_then ?_
  refine run_cond (b := (decide (1048576 < (x0.size : Int)))) rfl (fun hb6328 => ?_) (fun hb6328 => ?_)
  · replace H := cond_t hb6328 H
    refine run_seq ?_
    refine run_region rfl ?_
    refine ops_ex rfl (guard_none rfl) rfl rfl (ex_assign rfl rfl) ?_
    refine ops_nil ?_
    refine at_then ?_
    refine run_ret ?_
    refine at_then_ret ?_
    have hR := Option.some.inj H
    subst hR
    exact at_ret1 rfl rfl ⟨_, rfl, rfl, HM⟩
  · replace H := cond_f hb6328 H
    refine run_skip ?_
    refine at_then ?_
    refine run_seq ?_
    obtain ⟨t6329, h6330, H⟩ := bind_some H
    refine run_region rfl ?_
    refine ops_ex rfl (guard_none rfl) rfl rfl (ex_move rfl rfl) ?_
    refine ops_does rfl (guard_none rfl) rfl rfl (does_callk rfl callok4 rfl (spec_ParseTx.calls (x0 := x0) h6330)) ?_
    rintro _ w6338 ⟨u6331, u6333, rfl, hn⟩
    replace HM : Mem w [] w6338 [own kRef 60 u6331 t6329.fTx.fIns, own kOut 49 u6333 t6329.fTx.fOuts] := HM.call hn
    refine ops_does rfl (guard_none rfl) rfl rfl (does_alloc (cs := [.int .i64 0, .int .i64 0, .int .i64 0, .slice none 0 0, .slice none 0 0]) rfl tz27 rfl HM) ?_
    rintro _ w6339 ⟨b6335, rfl, HM⟩
    refine ops_doesS rfl (guard_none rfl) rfl (does_store (vs := [.int .i64 t6329.fCode, .int .i64 t6329.fTx.fKind, .int .i64 t6329.fTx.fMember, u6331, u6333]) (cs' := [.int .i64 t6329.fCode, .int .i64 t6329.fTx.fKind, .int .i64 t6329.fTx.fMember, u6331, u6333]) rfl rfl rfl rfl tsz27 (Ones.int (Ones.int (Ones.int (Ones.rd (HM.own_rd 1 rfl) (Ones.rd (HM.own_rd 2 rfl) Ones.nil))))) rfl rfl HM) ?_
    rintro w6340 HM
    refine ops_nil ?_
    refine at_then ?_
    refine run_seq ?_
    obtain ⟨t6341, h6342, H⟩ := bind_some H
    refine run_region rfl ?_
    refine ops_ex rfl (guard_none rfl) rfl rfl (ex_move rfl rfl) ?_
    refine ops_does rfl (guard_none rfl) rfl rfl (does_callk rfl callok5 rfl (impl_ParseTx.calls (x0 := x0) (HM.tabP htab) h6342)) ?_
    rintro _ w6350 ⟨u6343, u6345, rfl, hn⟩
    replace HM : Mem w [] w6350 [own kRef 60 u6343 t6341.fTx.fIns, own kOut 49 u6345 t6341.fTx.fOuts, box b6335 27 [.int .i64 t6329.fCode, .int .i64 t6329.fTx.fKind, .int .i64 t6329.fTx.fMember, u6331, u6333], own kRef 60 u6331 t6329.fTx.fIns, own kOut 49 u6333 t6329.fTx.fOuts] := HM.call hn
    refine ops_does rfl (guard_none rfl) rfl rfl (does_alloc (cs := [.int .i64 0, .int .i64 0, .int .i64 0, .slice none 0 0, .slice none 0 0]) rfl tz27 rfl HM) ?_
    rintro _ w6351 ⟨b6347, rfl, HM⟩
    refine ops_doesS rfl (guard_none rfl) rfl (does_store (vs := [.int .i64 t6341.fCode, .int .i64 t6341.fTx.fKind, .int .i64 t6341.fTx.fMember, u6343, u6345]) (cs' := [.int .i64 t6341.fCode, .int .i64 t6341.fTx.fKind, .int .i64 t6341.fTx.fMember, u6343, u6345]) rfl rfl rfl rfl tsz27 (Ones.int (Ones.int (Ones.int (Ones.rd (HM.own_rd 1 rfl) (Ones.rd (HM.own_rd 2 rfl) Ones.nil))))) rfl rfl HM) ?_
    rintro w6352 HM
    refine ops_nil ?_
    refine at_then ?_
    refine run_seq ?_
    refine run_seq ?_
    obtain ⟨t6356, h6357, H⟩ := bind_some H
    refine run_region rfl ?_
    refine ops_ex rfl (guard_none rfl) rfl rfl (ex_loadN (cs := [(.int .i64 t6341.fCode), (.int .i64 t6341.fTx.fKind), (.int .i64 t6341.fTx.fMember), u6343, u6345]) rfl rfl Tryz.underlying27 rfl tsz27 rfl ((HM.box_at 0 rfl).sub 0 5 rfl)) ?_
    refine ops_ex rfl (guard_none rfl) rfl rfl (ex_loadN (cs := [(.int .i64 t6329.fCode), (.int .i64 t6329.fTx.fKind), (.int .i64 t6329.fTx.fMember), u6331, u6333]) rfl rfl Tryz.underlying27 rfl tsz27 rfl ((HM.box_at 3 rfl).sub 0 5 rfl)) ?_
    refine ops_does rfl (guard_none rfl) rfl rfl (does_callk rfl callok6 rfl (laws_eqTxResult.calls (x0 := t6341) (x1 := t6329) (HM.own_rd 1 rfl) (HM.own_rd 2 rfl) (HM.own_rd 4 rfl) (HM.own_rd 5 rfl) h6357)) ?_
    rintro _ w6358 ⟨rfl, hn⟩
    replace HM : Mem w [] w6358 [box b6347 27 [.int .i64 t6341.fCode, .int .i64 t6341.fTx.fKind, .int .i64 t6341.fTx.fMember, u6343, u6345], own kRef 60 u6343 t6341.fTx.fIns, own kOut 49 u6345 t6341.fTx.fOuts, box b6335 27 [.int .i64 t6329.fCode, .int .i64 t6329.fTx.fKind, .int .i64 t6329.fTx.fMember, u6331, u6333], own kRef 60 u6331 t6329.fTx.fIns, own kOut 49 u6333 t6329.fTx.fOuts] := HM.call hn
    refine ops_ex rfl (guard_none rfl) rfl rfl (ex_not rfl rfl) ?_
    refine ops_nil ?_
    refine at_then ?_
    refine run_cond (b := !t6356) rfl (fun hb6359 => ?_) (fun hb6359 => ?_)
    · replace H := cond_t hb6359 H
      refine run_seq ?_
      refine run_region rfl ?_
      refine ops_ex rfl (guard_none rfl) rfl rfl (ex_assign rfl rfl) ?_
      refine ops_nil ?_
      refine at_then ?_
      refine run_ret ?_
      refine at_then_ret ?_
      replace HM := (HM.front 0 rfl rfl).drop
      replace HM := (HM.front 0 rfl rfl).drop
      replace HM := (HM.front 0 rfl rfl).drop
      replace HM := (HM.front 0 rfl rfl).drop
      replace HM := (HM.front 0 rfl rfl).drop
      replace HM := (HM.front 0 rfl rfl).drop
      have hR := Option.some.inj H
      subst hR
      exact at_ret1 rfl rfl ⟨_, rfl, rfl, HM⟩
    · replace H := cond_f hb6359 H
      refine run_skip ?_
      refine at_then ?_
      refine run_seq ?_
      refine run_region rfl ?_
      refine ops_ex rfl (guard_none rfl) rfl rfl (ex_assign rfl rfl) ?_
      refine ops_nil ?_
      refine at_then ?_
      refine run_seq ?_
      obtain ⟨t6360, h6361, H⟩ := bind_some H
      refine run_region rfl ?_
      refine ops_ex rfl (guard_none rfl) rfl rfl (ex_loadN (cs := [(.int .i64 t6341.fCode), (.int .i64 t6341.fTx.fKind), (.int .i64 t6341.fTx.fMember), u6343, u6345]) rfl rfl Tryz.underlying27 rfl tsz27 rfl ((HM.box_at 0 rfl).sub 0 5 rfl)) ?_
      refine ops_ex rfl (guard_none rfl) rfl rfl (ex_move rfl rfl) ?_
      replace HM := HM.front 2 rfl rfl
      replace HM := HM.front 2 rfl rfl
      obtain ⟨F6362, hF6363, hFn6364, hFl6365, HMh6366, hcl6367⟩ := HM.hide (Ms := [own kRef 60 u6343 t6341.fTx.fIns, own kOut 49 u6345 t6341.fTx.fOuts])
      refine ops_does rfl (guard_none rfl) rfl rfl (does_callk rfl callok7 rfl (laws_markTxResult.calls (x0 := t6341) (x1 := 1) (hide_olds _ _) hF6363 hFn6364 hFl6365 h6361)) ?_
      rintro _ w6368 ⟨rfl, hn⟩
      replace HM : Mem w [] w6368 [own kRef 60 u6343 t6360.2.1, own kOut 49 u6345 t6360.2.2, box b6347 27 [.int .i64 t6341.fCode, .int .i64 t6341.fTx.fKind, .int .i64 t6341.fTx.fMember, u6343, u6345], box b6335 27 [.int .i64 t6329.fCode, .int .i64 t6329.fTx.fKind, .int .i64 t6329.fTx.fMember, u6331, u6333], own kRef 60 u6331 t6329.fTx.fIns, own kOut 49 u6333 t6329.fTx.fOuts] := hcl6367 _ _ hn
      refine ops_ex rfl (guard_none rfl) rfl rfl (ex_assign rfl rfl) ?_
      refine ops_nil ?_
      refine at_then ?_
      refine run_seq ?_
      refine run_region rfl ?_
      refine ops_ex rfl (guard_none rfl) rfl rfl (ex_assign rfl rfl) ?_
      refine ops_nil ?_
      refine at_then ?_
      refine run_seq ?_
      obtain ⟨t6369, h6370, H⟩ := bind_some H
      refine run_region rfl ?_
      refine ops_ex rfl (guard_none rfl) rfl rfl (ex_loadN (cs := [(.int .i64 t6341.fCode), (.int .i64 t6341.fTx.fKind), (.int .i64 t6341.fTx.fMember), u6343, u6345]) rfl rfl Tryz.underlying27 rfl tsz27 rfl ((HM.box_at 2 rfl).sub 0 5 rfl)) ?_
      refine ops_ex rfl (guard_none rfl) rfl rfl (ex_move rfl rfl) ?_
      refine ops_does rfl (guard_none rfl) rfl rfl (does_callk rfl callok8 rfl (laws_heldTxResult.calls (x0 := (⟨t6341.fCode, (⟨t6341.fTx.fKind, t6341.fTx.fMember, t6360.2.1, t6360.2.2⟩ : Tx)⟩ : TxResult)) (x1 := 1) (HM.own_rd 0 rfl) (HM.own_rd 1 rfl) h6370)) ?_
      rintro _ w6371 ⟨rfl, hn⟩
      replace HM : Mem w [] w6371 [own kRef 60 u6343 t6360.2.1, own kOut 49 u6345 t6360.2.2, box b6347 27 [.int .i64 t6341.fCode, .int .i64 t6341.fTx.fKind, .int .i64 t6341.fTx.fMember, u6343, u6345], box b6335 27 [.int .i64 t6329.fCode, .int .i64 t6329.fTx.fKind, .int .i64 t6329.fTx.fMember, u6331, u6333], own kRef 60 u6331 t6329.fTx.fIns, own kOut 49 u6333 t6329.fTx.fOuts] := HM.call hn
      refine ops_ex rfl (guard_none rfl) rfl rfl (ex_assign rfl rfl) ?_
      refine ops_nil ?_
      refine at_then ?_
      refine run_seq ?_
      refine run_seq ?_
      refine run_region rfl ?_
      refine ops_ex rfl (guard_none rfl) rfl rfl (ex_move rfl rfl) ?_
      refine ops_ex rfl (guard_none rfl) rfl rfl (ex_lss rfl rfl rfl) ?_
      refine ops_nil ?_
      refine at_then ?_
      refine run_cond (b := (decide (t6369 < 0))) rfl (fun hb6373 => ?_) (fun hb6373 => ?_)
      · replace H := cond_t hb6373 H
        refine run_seq ?_
        refine run_region rfl ?_
        refine ops_ex rfl (guard_none rfl) rfl rfl (ex_assign rfl rfl) ?_
        refine ops_nil ?_
        refine at_then ?_
        refine run_ret ?_
        refine at_then_ret ?_
        replace HM := (HM.front 0 rfl rfl).drop
        replace HM := (HM.front 0 rfl rfl).drop
        replace HM := (HM.front 0 rfl rfl).drop
        replace HM := (HM.front 0 rfl rfl).drop
        replace HM := (HM.front 0 rfl rfl).drop
        replace HM := (HM.front 0 rfl rfl).drop
        have hR := Option.some.inj H
        subst hR
        exact at_ret1 rfl rfl ⟨_, rfl, rfl, HM⟩
      · replace H := cond_f hb6373 H
        refine run_skip ?_
        refine at_then ?_
        refine run_seq ?_
        refine run_seq ?_
        refine run_region rfl ?_
        refine ops_ex rfl (guard_none rfl) rfl rfl (ex_move rfl rfl) ?_
        refine ops_ex rfl (guard_none rfl) rfl rfl (ex_move rfl rfl) ?_
        refine ops_ex rfl (guard_none rfl) rfl rfl (ex_neq rfl rfl rfl) ?_
        refine ops_nil ?_
        refine at_then ?_
        refine run_cond (b := (t6369 != t6360.1)) rfl (fun hb6375 => ?_) (fun hb6375 => ?_)
        · replace H := cond_t hb6375 H
          refine run_seq ?_
          refine run_region rfl ?_
          refine ops_ex rfl (guard_none rfl) rfl rfl (ex_assign rfl rfl) ?_
          refine ops_nil ?_
          refine at_then ?_
          refine run_ret ?_
          refine at_then_ret ?_
          replace HM := (HM.front 0 rfl rfl).drop
          replace HM := (HM.front 0 rfl rfl).drop
          replace HM := (HM.front 0 rfl rfl).drop
          replace HM := (HM.front 0 rfl rfl).drop
          replace HM := (HM.front 0 rfl rfl).drop
          replace HM := (HM.front 0 rfl rfl).drop
          have hR := Option.some.inj H
          subst hR
          exact at_ret1 rfl rfl ⟨_, rfl, rfl, HM⟩
        · replace H := cond_f hb6375 H
          refine run_skip ?_
          refine at_then ?_
          refine run_seq ?_
          obtain ⟨t6376, h6377, H⟩ := bind_some H
          refine run_region rfl ?_
          refine ops_ex rfl (guard_none rfl) rfl rfl (ex_move rfl rfl) ?_
          refine ops_does rfl (guard_none rfl) rfl rfl (does_callk rfl callok5 rfl (impl_ParseTx.calls (x0 := x0) (HM.tabP htab) h6377)) ?_
          rintro _ w6385 ⟨u6378, u6380, rfl, hn⟩
          replace HM : Mem w [] w6385 [own kRef 60 u6378 t6376.fTx.fIns, own kOut 49 u6380 t6376.fTx.fOuts, own kRef 60 u6343 t6360.2.1, own kOut 49 u6345 t6360.2.2, box b6347 27 [.int .i64 t6341.fCode, .int .i64 t6341.fTx.fKind, .int .i64 t6341.fTx.fMember, u6343, u6345], box b6335 27 [.int .i64 t6329.fCode, .int .i64 t6329.fTx.fKind, .int .i64 t6329.fTx.fMember, u6331, u6333], own kRef 60 u6331 t6329.fTx.fIns, own kOut 49 u6333 t6329.fTx.fOuts] := HM.call hn
          refine ops_does rfl (guard_none rfl) rfl rfl (does_alloc (cs := [.int .i64 0, .int .i64 0, .int .i64 0, .slice none 0 0, .slice none 0 0]) rfl tz27 rfl HM) ?_
          rintro _ w6386 ⟨b6382, rfl, HM⟩
          refine ops_doesS rfl (guard_none rfl) rfl (does_store (vs := [.int .i64 t6376.fCode, .int .i64 t6376.fTx.fKind, .int .i64 t6376.fTx.fMember, u6378, u6380]) (cs' := [.int .i64 t6376.fCode, .int .i64 t6376.fTx.fKind, .int .i64 t6376.fTx.fMember, u6378, u6380]) rfl rfl rfl rfl tsz27 (Ones.int (Ones.int (Ones.int (Ones.rd (HM.own_rd 1 rfl) (Ones.rd (HM.own_rd 2 rfl) Ones.nil))))) rfl rfl HM) ?_
          rintro w6387 HM
          refine ops_nil ?_
          refine at_then ?_
          refine run_seq ?_
          refine run_seq ?_
          obtain ⟨t6391, h6392, H⟩ := bind_some H
          refine run_region rfl ?_
          refine ops_ex rfl (guard_none rfl) rfl rfl (ex_loadN (cs := [(.int .i64 t6376.fCode), (.int .i64 t6376.fTx.fKind), (.int .i64 t6376.fTx.fMember), u6378, u6380]) rfl rfl Tryz.underlying27 rfl tsz27 rfl ((HM.box_at 0 rfl).sub 0 5 rfl)) ?_
          refine ops_ex rfl (guard_none rfl) rfl rfl (ex_loadN (cs := [(.int .i64 t6329.fCode), (.int .i64 t6329.fTx.fKind), (.int .i64 t6329.fTx.fMember), u6331, u6333]) rfl rfl Tryz.underlying27 rfl tsz27 rfl ((HM.box_at 6 rfl).sub 0 5 rfl)) ?_
          refine ops_does rfl (guard_none rfl) rfl rfl (does_callk rfl callok6 rfl (laws_eqTxResult.calls (x0 := t6376) (x1 := t6329) (HM.own_rd 1 rfl) (HM.own_rd 2 rfl) (HM.own_rd 7 rfl) (HM.own_rd 8 rfl) h6392)) ?_
          rintro _ w6393 ⟨rfl, hn⟩
          replace HM : Mem w [] w6393 [box b6382 27 [.int .i64 t6376.fCode, .int .i64 t6376.fTx.fKind, .int .i64 t6376.fTx.fMember, u6378, u6380], own kRef 60 u6378 t6376.fTx.fIns, own kOut 49 u6380 t6376.fTx.fOuts, own kRef 60 u6343 t6360.2.1, own kOut 49 u6345 t6360.2.2, box b6347 27 [.int .i64 t6341.fCode, .int .i64 t6341.fTx.fKind, .int .i64 t6341.fTx.fMember, u6343, u6345], box b6335 27 [.int .i64 t6329.fCode, .int .i64 t6329.fTx.fKind, .int .i64 t6329.fTx.fMember, u6331, u6333], own kRef 60 u6331 t6329.fTx.fIns, own kOut 49 u6333 t6329.fTx.fOuts] := HM.call hn
          refine ops_ex rfl (guard_none rfl) rfl rfl (ex_not rfl rfl) ?_
          refine ops_nil ?_
          refine at_then ?_
          refine run_cond (b := !t6391) rfl (fun hb6394 => ?_) (fun hb6394 => ?_)
          · replace H := cond_t hb6394 H
            refine run_seq ?_
            refine run_region rfl ?_
            refine ops_ex rfl (guard_none rfl) rfl rfl (ex_assign rfl rfl) ?_
            refine ops_nil ?_
            refine at_then ?_
            refine run_ret ?_
            refine at_then_ret ?_
            replace HM := (HM.front 0 rfl rfl).drop
            replace HM := (HM.front 0 rfl rfl).drop
            replace HM := (HM.front 0 rfl rfl).drop
            replace HM := (HM.front 0 rfl rfl).drop
            replace HM := (HM.front 0 rfl rfl).drop
            replace HM := (HM.front 0 rfl rfl).drop
            replace HM := (HM.front 0 rfl rfl).drop
            replace HM := (HM.front 0 rfl rfl).drop
            replace HM := (HM.front 0 rfl rfl).drop
            have hR := Option.some.inj H
            subst hR
            exact at_ret1 rfl rfl ⟨_, rfl, rfl, HM⟩
          · replace H := cond_f hb6394 H
            refine run_skip ?_
            refine at_then ?_
            refine run_seq ?_
            refine run_region rfl ?_
            refine ops_ex rfl (guard_none rfl) rfl rfl (ex_assign rfl rfl) ?_
            refine ops_nil ?_
            refine at_then ?_
            refine run_seq ?_
            obtain ⟨t6395, h6396, H⟩ := bind_some H
            refine run_region rfl ?_
            refine ops_ex rfl (guard_none rfl) rfl rfl (ex_loadN (cs := [(.int .i64 t6341.fCode), (.int .i64 t6341.fTx.fKind), (.int .i64 t6341.fTx.fMember), u6343, u6345]) rfl rfl Tryz.underlying27 rfl tsz27 rfl ((HM.box_at 5 rfl).sub 0 5 rfl)) ?_
            refine ops_ex rfl (guard_none rfl) rfl rfl (ex_move rfl rfl) ?_
            refine ops_does rfl (guard_none rfl) rfl rfl (does_callk rfl callok8 rfl (laws_heldTxResult.calls (x0 := (⟨t6341.fCode, (⟨t6341.fTx.fKind, t6341.fTx.fMember, t6360.2.1, t6360.2.2⟩ : Tx)⟩ : TxResult)) (x1 := 1) (HM.own_rd 3 rfl) (HM.own_rd 4 rfl) h6396)) ?_
            rintro _ w6397 ⟨rfl, hn⟩
            replace HM : Mem w [] w6397 [box b6382 27 [.int .i64 t6376.fCode, .int .i64 t6376.fTx.fKind, .int .i64 t6376.fTx.fMember, u6378, u6380], own kRef 60 u6378 t6376.fTx.fIns, own kOut 49 u6380 t6376.fTx.fOuts, own kRef 60 u6343 t6360.2.1, own kOut 49 u6345 t6360.2.2, box b6347 27 [.int .i64 t6341.fCode, .int .i64 t6341.fTx.fKind, .int .i64 t6341.fTx.fMember, u6343, u6345], box b6335 27 [.int .i64 t6329.fCode, .int .i64 t6329.fTx.fKind, .int .i64 t6329.fTx.fMember, u6331, u6333], own kRef 60 u6331 t6329.fTx.fIns, own kOut 49 u6333 t6329.fTx.fOuts] := HM.call hn
            refine ops_ex rfl (guard_none rfl) rfl rfl (ex_assign rfl rfl) ?_
            refine ops_nil ?_
            refine at_then ?_
            refine run_seq ?_
            refine run_seq ?_
            refine run_region rfl ?_
            refine ops_ex rfl (guard_none rfl) rfl rfl (ex_move rfl rfl) ?_
            refine ops_ex rfl (guard_none rfl) rfl rfl (ex_lss rfl rfl rfl) ?_
            refine ops_nil ?_
            refine at_then ?_
            refine run_cond (b := (decide (t6395 < 0))) rfl (fun hb6399 => ?_) (fun hb6399 => ?_)
            · replace H := cond_t hb6399 H
              refine run_seq ?_
              refine run_region rfl ?_
              refine ops_ex rfl (guard_none rfl) rfl rfl (ex_assign rfl rfl) ?_
              refine ops_nil ?_
              refine at_then ?_
              refine run_ret ?_
              refine at_then_ret ?_
              replace HM := (HM.front 0 rfl rfl).drop
              replace HM := (HM.front 0 rfl rfl).drop
              replace HM := (HM.front 0 rfl rfl).drop
              replace HM := (HM.front 0 rfl rfl).drop
              replace HM := (HM.front 0 rfl rfl).drop
              replace HM := (HM.front 0 rfl rfl).drop
              replace HM := (HM.front 0 rfl rfl).drop
              replace HM := (HM.front 0 rfl rfl).drop
              replace HM := (HM.front 0 rfl rfl).drop
              have hR := Option.some.inj H
              subst hR
              exact at_ret1 rfl rfl ⟨_, rfl, rfl, HM⟩
            · replace H := cond_f hb6399 H
              refine run_skip ?_
              refine at_then ?_
              refine run_seq ?_
              refine run_seq ?_
              refine run_region rfl ?_
              refine ops_ex rfl (guard_none rfl) rfl rfl (ex_move rfl rfl) ?_
              refine ops_ex rfl (guard_none rfl) rfl rfl (ex_move rfl rfl) ?_
              refine ops_ex rfl (guard_none rfl) rfl rfl (ex_neq rfl rfl rfl) ?_
              refine ops_nil ?_
              refine at_then ?_
              refine run_cond (b := (t6395 != t6360.1)) rfl (fun hb6400 => ?_) (fun hb6400 => ?_)
              · replace H := cond_t hb6400 H
                refine run_seq ?_
                refine run_region rfl ?_
                refine ops_ex rfl (guard_none rfl) rfl rfl (ex_assign rfl rfl) ?_
                refine ops_nil ?_
                refine at_then ?_
                refine run_ret ?_
                refine at_then_ret ?_
                replace HM := (HM.front 0 rfl rfl).drop
                replace HM := (HM.front 0 rfl rfl).drop
                replace HM := (HM.front 0 rfl rfl).drop
                replace HM := (HM.front 0 rfl rfl).drop
                replace HM := (HM.front 0 rfl rfl).drop
                replace HM := (HM.front 0 rfl rfl).drop
                replace HM := (HM.front 0 rfl rfl).drop
                replace HM := (HM.front 0 rfl rfl).drop
                replace HM := (HM.front 0 rfl rfl).drop
                have hR := Option.some.inj H
                subst hR
                exact at_ret1 rfl rfl ⟨_, rfl, rfl, HM⟩
              · replace H := cond_f hb6400 H
                refine run_skip ?_
                refine at_then ?_
                refine run_seq ?_
                refine run_region rfl ?_
                refine ops_ex rfl (guard_none rfl) rfl rfl (ex_assign rfl rfl) ?_
                refine ops_nil ?_
                refine at_then ?_
                refine run_ret ?_
                replace HM := (HM.front 0 rfl rfl).drop
                replace HM := (HM.front 0 rfl rfl).drop
                replace HM := (HM.front 0 rfl rfl).drop
                replace HM := (HM.front 0 rfl rfl).drop
                replace HM := (HM.front 0 rfl rfl).drop
                replace HM := (HM.front 0 rfl rfl).drop
                replace HM := (HM.front 0 rfl rfl).drop
                replace HM := (HM.front 0 rfl rfl).drop
                replace HM := (HM.front 0 rfl rfl).drop
                have hR := Option.some.inj H
                subst hR
                exact at_ret1 rfl rfl ⟨_, rfl, rfl, HM⟩
end Go.Proofs.YtcpacdbdehphkaaGreatDoor.Zk
