/- What functions of the program compute, each as a plain function, and that they do. Conditions: as each theorem states them. -/
import Derived.Test.YtcpacdbdehphkaaGreatDoorParseTxZkF7
namespace Go.Proofs.YtcpacdbdehphkaaGreatDoor.Zk
open Go Go.RowKit Go.IntWalk Go.Proofs
set_option linter.unusedVariables false
set_option linter.unusedSimpArgs false
set_option maxRecDepth 100000
set_option maxHeartbeats 4000000
def impl_ParseTx.f (k : Nat) (x0 : ByteArray) : Option TxResult := ((impl_readTx.f k x0).bind fun t4950 => (bif !t4950.2 then some (⟨5, (⟨0, 0, ([] : List Ref), ([] : List Out)⟩ : Tx)⟩ : TxResult) else some (⟨0, (⟨t4950.1.fKind, t4950.1.fMember, t4950.1.fIns, t4950.1.fOuts⟩ : Tx)⟩ : TxResult)))
theorem impl_ParseTx.calls {k : Nat} {x0 : ByteArray}  {w : World} (htab : TabP w)  {r : TxResult} (H : impl_ParseTx.f k x0 = some r) :
    Calls Tryz.prog 5 ([.string x0] : List Value).toArray w (fun e w_ => ∃ v, e = .returned v ∧ ∃ u0 : Value, ∃ u1 : Value, v = (.agg #[.int .i64 r.fCode, .int .i64 r.fTx.fKind, .int .i64 r.fTx.fMember, u0, u1]) ∧ Mem w [] w_ [own kRef 60 u0 r.fTx.fIns, own kOut 49 u1 r.fTx.fOuts]) := by
  have HM := Mem.start w
  refine calls_run (N := 15) Tryz.func5 rfl rfl rfl rfl ?_
  unfold impl_ParseTx.f at H
  refine run_seq ?_
  refine run_region rfl ?_
  refine ops_does rfl (guard_none rfl) rfl rfl (does_alloc (cs := [.int .i64 0, .int .i64 0, .int .i64 0, .slice none 0 0, .slice none 0 0]) rfl tz27 rfl HM) ?_
  rintro _ w4949 ⟨b4946, rfl, HM⟩
  refine ops_nil ?_
  refine at_then ?_
  refine run_seq ?_
  obtain ⟨t4950, h4951, H⟩ := bind_some H
  refine run_region rfl ?_
  refine ops_ex rfl (guard_none rfl) rfl rfl (ex_move rfl rfl) ?_
  refine ops_does rfl (guard_none rfl) rfl rfl (does_callk rfl callok10 rfl (impl_readTx.calls (x0 := x0) (HM.tabP htab) h4951)) ?_
  rintro _ w4959 ⟨u4952, u4954, rfl, hn⟩
  replace HM : Mem w [] w4959 [own kRef 60 u4952 t4950.1.fIns, own kOut 49 u4954 t4950.1.fOuts, box b4946 27 [.int .i64 0, .int .i64 0, .int .i64 0, .slice none 0 0, .slice none 0 0]] := HM.call hn
  refine ops_ex rfl (guard_none rfl) rfl rfl (ex_move rfl rfl) ?_
  refine ops_ex rfl (guard_none rfl) rfl rfl (ex_extract rfl rfl rfl) ?_
  refine ops_ex rfl (guard_none rfl) rfl rfl (ex_extract rfl rfl rfl) ?_
  refine ops_does rfl (guard_none rfl) rfl rfl (does_alloc (cs := [.int .i64 0, .int .i64 0, .slice none 0 0, .slice none 0 0]) rfl tz25 rfl HM) ?_
  rintro _ w4960 ⟨b4956, rfl, HM⟩
  refine ops_doesS rfl (guard_none rfl) rfl (does_store (vs := [.int .i64 t4950.1.fKind, .int .i64 t4950.1.fMember, u4952, u4954]) (cs' := [.int .i64 t4950.1.fKind, .int .i64 t4950.1.fMember, u4952, u4954]) rfl rfl rfl rfl tsz25 (Ones.int (Ones.int (Ones.rd (HM.own_rd 1 rfl) (Ones.rd (HM.own_rd 2 rfl) Ones.nil)))) rfl rfl HM) ?_
  rintro w4961 HM
  refine ops_ex rfl (guard_none rfl) rfl rfl (ex_assign rfl rfl) ?_
  refine ops_nil ?_
  refine at_then ?_
  refine run_seq ?_
  refine run_seq ?_
  refine run_region rfl ?_
  refine ops_ex rfl (guard_none rfl) rfl rfl (ex_move rfl rfl) ?_
  refine ops_ex rfl (guard_none rfl) rfl rfl (ex_not rfl rfl) ?_
  refine ops_nil ?_
  refine at_then ?_
  refine run_cond (b := !t4950.2) rfl (fun hb4962 => ?_) (fun hb4962 => ?_)
  · replace H := cond_t hb4962 H
    refine run_seq ?_
    refine run_region rfl ?_
    refine ops_ex rfl (guard_none rfl) rfl rfl (ex_build (cells := #[(.int .i64 5), (.int .i64 0), (.int .i64 0), (.slice none 0 0), (.slice none 0 0)]) rfl rfl (by kernel_rfl)) ?_
    replace HM := HM.front 3 rfl rfl
    refine ops_doesS rfl (guard_none rfl) rfl (does_store (vs := [.int .i64 5, .int .i64 0, .int .i64 0, .slice none 0 0, .slice none 0 0]) (cs' := [.int .i64 5, .int .i64 0, .int .i64 0, .slice none 0 0, .slice none 0 0]) rfl rfl rfl rfl tsz27 (Ones.int (Ones.int (Ones.int (Ones.sl (Ones.sl Ones.nil))))) rfl rfl HM) ?_
    rintro w4963 HM
    refine ops_nil ?_
    refine at_then ?_
    refine run_ret ?_
    refine at_then_ret ?_
    replace HM := HM.empty kRef 60 none
    replace HM := HM.empty kOut 49 none
    replace HM := (HM.front 3 rfl rfl).drop
    replace HM := (HM.front 3 rfl rfl).drop
    replace HM := (HM.front 3 rfl rfl).drop
    replace HM := HM.front 1 rfl rfl
    replace HM := HM.front 2 rfl rfl
    have hcb0 := HM.box_at 0 rfl
    replace HM := (HM.front 0 rfl rfl).drop
    have hR := Option.some.inj H
    subst hR
    exact at_retN rfl rfl Tryz.underlying27 rfl tsz27 rfl hcb0 ⟨_, rfl, _, _, rfl, HM⟩
  · replace H := cond_f hb4962 H
    refine run_skip ?_
    refine at_then ?_
    refine run_seq ?_
    refine run_region rfl ?_
    refine ops_ex rfl (guard_none rfl) rfl rfl (ex_loadN (cs := [(.int .i64 t4950.1.fKind), (.int .i64 t4950.1.fMember), u4952, u4954]) rfl rfl Tryz.underlying25 rfl tsz25 rfl ((HM.box_at 0 rfl).sub 0 4 rfl)) ?_
    refine ops_ex rfl (guard_none rfl) rfl rfl (ex_build2 (fun u4952 u4954 => [(1, .agg #[(.int .i64 t4950.1.fKind), (.int .i64 t4950.1.fMember), u4952, u4954])]) (fun u4952 u4954 => #[.int .i64 0, .int .i64 t4950.1.fKind, .int .i64 t4950.1.fMember, u4952, u4954]) rfl rfl (fun _ _ _ _ _ _ => by kernel_rfl) (HM.own_rd 1 rfl).isSl (HM.own_rd 2 rfl).isSl) ?_
    replace HM := HM.front 3 rfl rfl
    refine ops_doesS rfl (guard_none rfl) rfl (does_store (vs := [.int .i64 0, .int .i64 t4950.1.fKind, .int .i64 t4950.1.fMember, u4952, u4954]) (cs' := [.int .i64 0, .int .i64 t4950.1.fKind, .int .i64 t4950.1.fMember, u4952, u4954]) rfl rfl rfl rfl tsz27 (Ones.int (Ones.int (Ones.int (Ones.rd (HM.own_rd 2 rfl) (Ones.rd (HM.own_rd 3 rfl) Ones.nil))))) rfl rfl HM) ?_
    rintro w4966 HM
    refine ops_nil ?_
    refine at_then ?_
    refine run_ret ?_
    replace HM := (HM.front 1 rfl rfl).drop
    have hcb0 := HM.box_at 0 rfl
    replace HM := (HM.front 0 rfl rfl).drop
    have hR := Option.some.inj H
    subst hR
    exact at_retN rfl rfl Tryz.underlying27 rfl tsz27 rfl hcb0 ⟨_, rfl, _, _, rfl, HM⟩

def laws_eqRef.f (k : Nat) (x0 : Ref) (x1 : Ref) : Option Bool := (bif (x0.fTx != x1.fTx) then some false else (bif (x0.fAt != x1.fAt) then some false else some true))
theorem laws_eqRef.calls {k : Nat} {x0 : Ref} {x1 : Ref}  {w : World}  {r : Bool} (H : laws_eqRef.f k x0 x1 = some r) :
    Calls Tryz.prog 56 ([.agg #[(.int .i64 x0.fTx), (.int .i64 x0.fAt)], .agg #[(.int .i64 x1.fTx), (.int .i64 x1.fAt)]] : List Value).toArray w (fun e w_ => ∃ v, e = .returned v ∧ v = (.bool r) ∧ Mem w [] w_ []) := by
  have HM := Mem.start w
  refine calls_run (N := 15) Tryz.func56 rfl rfl rfl rfl ?_
  unfold laws_eqRef.f at H
  refine run_seq ?_
  refine run_region rfl ?_
  refine ops_does rfl (guard_none rfl) rfl rfl (does_box (cs := [.int .i64 x0.fTx, .int .i64 x0.fAt]) rfl rfl rfl HM) ?_
  rintro _ w5016 ⟨b5010, rfl, HM⟩
  refine ops_does rfl (guard_none rfl) rfl rfl (does_box (cs := [.int .i64 x1.fTx, .int .i64 x1.fAt]) rfl rfl rfl HM) ?_
  rintro _ w5017 ⟨b5013, rfl, HM⟩
  refine ops_ex rfl (guard_none rfl) rfl rfl (ex_assign rfl rfl) ?_
  refine ops_nil ?_
  refine at_then ?_
  refine run_seq ?_
  refine run_seq ?_
  refine run_region rfl ?_
  refine ops_ex rfl (guard_none rfl) rfl rfl (ex_fieldAddr (off' := 0) rfl rfl Tryz.underlying60 rfl tsz2 rfl) ?_
  refine ops_ex rfl (guard_none rfl) rfl rfl (ex_load1 rfl rfl Tryz.underlying2 rfl ((HM.box_at 1 rfl) 0 _ rfl)) ?_
  refine ops_ex rfl (guard_none rfl) rfl rfl (ex_fieldAddr (off' := 0) rfl rfl Tryz.underlying60 rfl tsz2 rfl) ?_
  refine ops_ex rfl (guard_none rfl) rfl rfl (ex_load1 rfl rfl Tryz.underlying2 rfl ((HM.box_at 0 rfl) 0 _ rfl)) ?_
  refine ops_ex rfl (guard_none rfl) rfl rfl (ex_neq rfl rfl rfl) ?_
  refine ops_nil ?_
  refine at_then ?_
  refine run_cond (b := (x0.fTx != x1.fTx)) rfl (fun hb5019 => ?_) (fun hb5019 => ?_)
  · replace H := cond_t hb5019 H
    refine run_seq ?_
    refine run_region rfl ?_
    refine ops_ex rfl (guard_none rfl) rfl rfl (ex_assign rfl rfl) ?_
    refine ops_nil ?_
    refine at_then ?_
    refine run_ret ?_
    refine at_then_ret ?_
    replace HM := (HM.front 0 rfl rfl).drop
    replace HM := (HM.front 0 rfl rfl).drop
    have hR := Option.some.inj H
    subst hR
    exact at_ret1 rfl rfl ⟨_, rfl, rfl, HM⟩
  · replace H := cond_f hb5019 H
    refine run_skip ?_
    refine at_then ?_
    refine run_seq ?_
    refine run_seq ?_
    refine run_region rfl ?_
    refine ops_ex rfl (guard_none rfl) rfl rfl (ex_fieldAddr (off' := 1) rfl rfl Tryz.underlying60 rfl tsz2 rfl) ?_
    refine ops_ex rfl (guard_none rfl) rfl rfl (ex_load1 rfl rfl Tryz.underlying2 rfl ((HM.box_at 1 rfl) 1 _ rfl)) ?_
    refine ops_ex rfl (guard_none rfl) rfl rfl (ex_fieldAddr (off' := 1) rfl rfl Tryz.underlying60 rfl tsz2 rfl) ?_
    refine ops_ex rfl (guard_none rfl) rfl rfl (ex_load1 rfl rfl Tryz.underlying2 rfl ((HM.box_at 0 rfl) 1 _ rfl)) ?_
    refine ops_ex rfl (guard_none rfl) rfl rfl (ex_neq rfl rfl rfl) ?_
    refine ops_nil ?_
    refine at_then ?_
    refine run_cond (b := (x0.fAt != x1.fAt)) rfl (fun hb5020 => ?_) (fun hb5020 => ?_)
    · replace H := cond_t hb5020 H
      refine run_seq ?_
      refine run_region rfl ?_
      refine ops_ex rfl (guard_none rfl) rfl rfl (ex_assign rfl rfl) ?_
      refine ops_nil ?_
      refine at_then ?_
      refine run_ret ?_
      refine at_then_ret ?_
      replace HM := (HM.front 0 rfl rfl).drop
      replace HM := (HM.front 0 rfl rfl).drop
      have hR := Option.some.inj H
      subst hR
      exact at_ret1 rfl rfl ⟨_, rfl, rfl, HM⟩
    · replace H := cond_f hb5020 H
      refine run_skip ?_
      refine at_then ?_
      refine run_seq ?_
      refine run_region rfl ?_
      refine ops_ex rfl (guard_none rfl) rfl rfl (ex_assign rfl rfl) ?_
      refine ops_nil ?_
      refine at_then ?_
      refine run_ret ?_
      replace HM := (HM.front 0 rfl rfl).drop
      replace HM := (HM.front 0 rfl rfl).drop
      have hR := Option.some.inj H
      subst hR
      exact at_ret1 rfl rfl ⟨_, rfl, rfl, HM⟩

def laws_eqRefS.l0 (x0 : List Ref) (x1 : List Ref) : Nat → Int → Option (Bool ⊕ Unit)
  | 0, _ => none
  | k + 1, a5080 => (bif (decide (a5080 < (x0.length : Int))) then (chk (idxOk a5080 x0.length) (chk (idxOk a5080 x1.length) ((laws_eqRef.f k (gt x0 a5080) (gt x1 a5080)).bind fun t5096 => (bif !t5096 then some (.inl false) else laws_eqRefS.l0 x0 x1 k (wrap64 (a5080 + 1)))))) else some (.inr ()))
theorem laws_eqRefS.l0_z (x0 : List Ref) (x1 : List Ref) (a5080 : Int) : laws_eqRefS.l0 x0 x1 0 a5080 = none := rfl
theorem laws_eqRefS.l0_s (x0 : List Ref) (x1 : List Ref) (k : Nat) (a5080 : Int) : laws_eqRefS.l0 x0 x1 (k + 1) a5080 = (bif (decide (a5080 < (x0.length : Int))) then (chk (idxOk a5080 x0.length) (chk (idxOk a5080 x1.length) ((laws_eqRef.f k (gt x0 a5080) (gt x1 a5080)).bind fun t5096 => (bif !t5096 then some (.inl false) else laws_eqRefS.l0 x0 x1 k (wrap64 (a5080 + 1)))))) else some (.inr ())) := rfl
def laws_eqRefS.f (k : Nat) (x0 : List Ref) (x1 : List Ref) : Option Bool := (bif ((x0.length : Int) != (x1.length : Int)) then some false else ((laws_eqRefS.l0 x0 x1 k 0).bind fun o5070 => thn o5070 (fun r => some r) (fun _ => some true)))
theorem laws_eqRefS.calls {k : Nat} {x0 : List Ref} {x1 : List Ref} {p0 : Value} {p1 : Value} {w : World} (hp0 : RdS kRef w p0 x0) (hp1 : RdS kRef w p1 x1) {r : Bool} (H : laws_eqRefS.f k x0 x1 = some r) :
    Calls Tryz.prog 29 ([p0, p1] : List Value).toArray w (fun e w_ => ∃ v, e = .returned v ∧ v = (.bool r) ∧ Mem w [] w_ []) := by
  have HM := Mem.start w
  refine calls_run (N := 27) Tryz.func29 rfl rfl rfl rfl ?_
  unfold laws_eqRefS.f at H
  refine run_seq ?_
  refine run_region rfl ?_
  refine ops_ex rfl (guard_none rfl) rfl rfl (ex_assign rfl rfl) ?_
  refine ops_nil ?_
  refine at_then ?_
  refine run_seq ?_
  refine run_seq ?_
  refine run_region rfl ?_
  refine ops_ex rfl (guard_none rfl) rfl rfl (ex_move rfl rfl) ?_
  refine ops_ex rfl (guard_none rfl) rfl rfl (ex_len (d := kRef) (xs := x0) rfl rfl Tryz.underlying22 hp0) ?_
  refine ops_ex rfl (guard_none rfl) rfl rfl (ex_move rfl rfl) ?_
  refine ops_ex rfl (guard_none rfl) rfl rfl (ex_len (d := kRef) (xs := x1) rfl rfl Tryz.underlying22 hp1) ?_
  refine ops_ex rfl (guard_none rfl) rfl rfl (ex_neq rfl rfl rfl) ?_
  refine ops_nil ?_
  refine at_then ?_
  refine run_cond (b := ((x0.length : Int) != (x1.length : Int))) rfl (fun hb5044 => ?_) (fun hb5044 => ?_)
  · replace H := cond_t hb5044 H
    refine run_seq ?_
    refine run_region rfl ?_
    refine ops_ex rfl (guard_none rfl) rfl rfl (ex_assign rfl rfl) ?_
    refine ops_nil ?_
    refine at_then ?_
    refine run_ret ?_
    refine at_then_ret ?_
    have hR := Option.some.inj H
    subst hR
    exact at_ret1 rfl rfl ⟨_, rfl, rfl, HM⟩
  · replace H := cond_f hb5044 H
    refine run_skip ?_
    refine at_then ?_
    obtain ⟨o5070, ho5071, H⟩ := bind_some H
    refine run_mid (fun ρ_ w_ => Sum.inr () = o5070 ∧ ρ_ = [] ∧ Mem w [] w_ []) ?_ ?_
    · skip
      refine run_seq ?_
      refine run_region rfl ?_
      refine ops_ex rfl (guard_none rfl) rfl rfl (ex_assign rfl rfl) ?_
      refine ops_nil ?_
      refine at_then ?_
      refine run_block ?_
      refine run_loop (fun k_ ρ_ w_ => ∃ a5080 : Int, laws_eqRefS.l0 x0 x1 k_ a5080 = some o5070 ∧ ρ_ = [(0, p0), (1, p1), (5, .int .i64 a5080)] ∧ Mem w [] w_ []) k (ρ1 := [(0, p0), (1, p1), (5, .int .i64 0)]) ⟨_, ho5071, rfl, HM⟩ (Sub.cons rfl (Sub.cons rfl (Sub.cons rfl Sub.nil))) ?_
      clear HM ho5071
      rintro k5089 _ w5090 ⟨a5080, ho5071, rfl, HM⟩
      obtain _ | k5089 := k5089
      · exact nomatch ((laws_eqRefS.l0_z x0 x1 a5080).symm.trans ho5071)
      replace ho5071 := (laws_eqRefS.l0_s x0 x1 k5089 a5080).symm.trans ho5071
      refine run_seq ?_
      refine run_seq ?_
      refine run_region rfl ?_
      refine ops_ex rfl (guard_none rfl) rfl rfl (ex_move rfl rfl) ?_
      refine ops_ex rfl (guard_none rfl) rfl rfl (ex_move rfl rfl) ?_
      refine ops_ex rfl (guard_none rfl) rfl rfl (ex_len (d := kRef) (xs := x0) rfl rfl Tryz.underlying22 hp0) ?_
      refine ops_ex rfl (guard_none rfl) rfl rfl (ex_lss rfl rfl rfl) ?_
      refine ops_nil ?_
      refine at_then ?_
      refine run_cond (b := (decide (a5080 < (x0.length : Int)))) rfl (fun hb5091 => ?_) (fun hb5091 => ?_)
      · replace ho5071 := cond_t hb5091 ho5071
        refine run_skip ?_
        refine at_then ?_
        refine run_seq ?_
        refine run_block ?_
        refine run_seq ?_
        obtain ⟨e5092, ho5071⟩ := chk_some ho5071
        obtain ⟨e5094, ho5071⟩ := chk_some ho5071
        obtain ⟨t5096, h5097, ho5071⟩ := bind_some ho5071
        refine run_drawf (fun w_ => Mem w [] w_ []) [(0, true), (1, true), (2, true), (3, true), (4, true), (5, true), (6, true), (7, true), (8, false), (9, true)] mixed rfl rfl (by kernel_rfl) ?_
        replace HM := HM.grow (fr_drew _)
        have hS := Mem.suf (M := []) HM
        refine drwp_take rfl (guard_none rfl) rfl rfl (fun w_ hS_ => (ex_move rfl rfl)) hS ?_
        refine drwp_take rfl (guard_none rfl) rfl rfl (fun w_ hS_ => (ex_move rfl rfl)) hS ?_
        have hc5093 : CellsAt _ (sb p0) (so p0 + (a5080).toNat * 2) [(.int .i64 ((gt x0 a5080).fTx)), (.int .i64 ((gt x0 a5080).fAt))] := rd_plain hp0 e5092
        refine drwp_take rfl (guard_none rfl) rfl rfl (fun w_ hS_ => (ex_indexAddr (d := kRef) rfl rfl rfl Tryz.underlying22 tsz60 hp0 (idx_lo e5092) (idx_hi e5092))) hS ?_
        refine drwp_take rfl (guard_none rfl) rfl rfl (fun w_ hS_ => (ex_loadN (cs := [(.int .i64 ((gt x0 a5080).fTx)), (.int .i64 ((gt x0 a5080).fAt))]) rfl rfl Tryz.underlying60 rfl tsz60 rfl ((hS_.at_ hc5093).sub 0 2 rfl))) hS ?_
        refine drwp_take rfl (guard_none rfl) rfl rfl (fun w_ hS_ => (ex_move rfl rfl)) hS ?_
        refine drwp_take rfl (guard_none rfl) rfl rfl (fun w_ hS_ => (ex_move rfl rfl)) hS ?_
        have hc5095 : CellsAt _ (sb p1) (so p1 + (a5080).toNat * 2) [(.int .i64 ((gt x1 a5080).fTx)), (.int .i64 ((gt x1 a5080).fAt))] := rd_plain hp1 e5094
        refine drwp_take rfl (guard_none rfl) rfl rfl (fun w_ hS_ => (ex_indexAddr (d := kRef) rfl rfl rfl Tryz.underlying22 tsz60 hp1 (idx_lo e5094) (idx_hi e5094))) hS ?_
        refine drwp_take rfl (guard_none rfl) rfl rfl (fun w_ hS_ => (ex_loadN (cs := [(.int .i64 ((gt x1 a5080).fTx)), (.int .i64 ((gt x1 a5080).fAt))]) rfl rfl Tryz.underlying60 rfl tsz60 rfl ((hS_.at_ hc5095).sub 0 2 rfl))) hS ?_
        refine drwp_one rfl (guard_none rfl) rfl rfl (does_callk rfl callok56 rfl (laws_eqRef.calls (x0 := (gt x0 a5080)) (x1 := (gt x1 a5080)) h5097)) ?_
        rintro _ w5098 ⟨rfl, hn⟩
        replace HM : Mem w [] w5098 [] := HM.call hn
        refine ⟨Mem.suf (M := []) HM, ?_⟩
        have hS := Mem.suf (M := []) HM
        refine drwp_take rfl (guard_none rfl) rfl rfl (fun w_ hS_ => (ex_not rfl rfl)) hS ?_
        refine drwp_done ?_
        refine at_then ?_
        refine run_cond (b := !t5096) rfl (fun hb5099 => ?_) (fun hb5099 => ?_)
        · replace ho5071 := cond_t hb5099 ho5071
          refine run_seq ?_
          refine run_region rfl ?_
          refine ops_ex rfl (guard_none rfl) rfl rfl (ex_assign rfl rfl) ?_
          refine ops_nil ?_
          refine at_then ?_
          refine run_ret ?_
          refine at_block_ret ?_
          refine at_then_ret ?_
          refine at_then_ret ?_
          refine at_block_ret ?_
          refine at_then_ret ?_
          have hR := Option.some.inj ho5071
          subst hR
          have hT := thn_inl H
          have hR := Option.some.inj hT
          subst hR
          exact at_ret1 rfl rfl ⟨_, rfl, rfl, HM⟩
        · replace ho5071 := cond_f hb5099 ho5071
          refine run_skip ?_
          refine at_block ?_
          refine at_then ?_
          refine run_region rfl ?_
          refine ops_ex rfl (guard_none rfl) rfl rfl (ex_move rfl rfl) ?_
          refine ops_ex rfl (guard_none rfl) rfl rfl (ex_add rfl rfl rfl) ?_
          refine ops_ex rfl (guard_none rfl) rfl rfl (ex_assign rfl rfl) ?_
          refine ops_nil ?_
          exact at_again k5089 (ρ1 := [(0, p0), (1, p1), (5, .int .i64 (wrap64 (a5080 + 1)))]) (Nat.lt_succ_self _) ⟨_, ho5071, rfl, HM⟩ (Sub.cons rfl (Sub.cons rfl (Sub.cons rfl Sub.nil)))
      · replace ho5071 := cond_f hb5091 ho5071
        refine run_exit ?_
        refine at_then_exit ?_
        refine at_then_exit ?_
        refine at_block_exit ?_
        exact at_mid (ρ' := []) ⟨(Option.some.inj ho5071), rfl, HM⟩ Sub.nil
    · rintro _ w5100 ⟨rfl, rfl, HM⟩
      replace H := (thn_inr H)
      refine run_seq ?_
      refine run_region rfl ?_
      refine ops_ex rfl (guard_none rfl) rfl rfl (ex_assign rfl rfl) ?_
      refine ops_nil ?_
      refine at_then ?_
      refine run_ret ?_
      have hR := Option.some.inj H
      subst hR
      exact at_ret1 rfl rfl ⟨_, rfl, rfl, HM⟩

def laws_eqInt64S.l0 (x0 : List Int) (x1 : List Int) : Nat → Int → Option (Bool ⊕ Unit)
  | 0, _ => none
  | k + 1, a5184 => (bif (decide (a5184 < (x0.length : Int))) then (chk (idxOk a5184 x0.length) (chk (idxOk a5184 x1.length) (bif ((gt x0 a5184) != (gt x1 a5184)) then some (.inl false) else laws_eqInt64S.l0 x0 x1 k (wrap64 (a5184 + 1))))) else some (.inr ()))
theorem laws_eqInt64S.l0_z (x0 : List Int) (x1 : List Int) (a5184 : Int) : laws_eqInt64S.l0 x0 x1 0 a5184 = none := rfl
theorem laws_eqInt64S.l0_s (x0 : List Int) (x1 : List Int) (k : Nat) (a5184 : Int) : laws_eqInt64S.l0 x0 x1 (k + 1) a5184 = (bif (decide (a5184 < (x0.length : Int))) then (chk (idxOk a5184 x0.length) (chk (idxOk a5184 x1.length) (bif ((gt x0 a5184) != (gt x1 a5184)) then some (.inl false) else laws_eqInt64S.l0 x0 x1 k (wrap64 (a5184 + 1))))) else some (.inr ())) := rfl
def laws_eqInt64S.f (k : Nat) (x0 : List Int) (x1 : List Int) : Option Bool := (bif ((x0.length : Int) != (x1.length : Int)) then some false else ((laws_eqInt64S.l0 x0 x1 k 0).bind fun o5176 => thn o5176 (fun r => some r) (fun _ => some true)))
theorem laws_eqInt64S.calls {k : Nat} {x0 : List Int} {x1 : List Int} {p0 : Value} {p1 : Value} {w : World} (hp0 : RdS kInt w p0 x0) (hp1 : RdS kInt w p1 x1) {r : Bool} (H : laws_eqInt64S.f k x0 x1 = some r) :
    Calls Tryz.prog 95 ([p0, p1] : List Value).toArray w (fun e w_ => ∃ v, e = .returned v ∧ v = (.bool r) ∧ Mem w [] w_ []) := by
  have HM := Mem.start w
  refine calls_run (N := 26) Tryz.func95 rfl rfl rfl rfl ?_
  unfold laws_eqInt64S.f at H
  refine run_seq ?_
  refine run_region rfl ?_
  refine ops_ex rfl (guard_none rfl) rfl rfl (ex_assign rfl rfl) ?_
  refine ops_nil ?_
  refine at_then ?_
  refine run_seq ?_
  refine run_seq ?_
  refine run_region rfl ?_
  refine ops_ex rfl (guard_none rfl) rfl rfl (ex_move rfl rfl) ?_
  refine ops_ex rfl (guard_none rfl) rfl rfl (ex_len (d := kInt) (xs := x0) rfl rfl Tryz.underlying42 hp0) ?_
  refine ops_ex rfl (guard_none rfl) rfl rfl (ex_move rfl rfl) ?_
  refine ops_ex rfl (guard_none rfl) rfl rfl (ex_len (d := kInt) (xs := x1) rfl rfl Tryz.underlying42 hp1) ?_
  refine ops_ex rfl (guard_none rfl) rfl rfl (ex_neq rfl rfl rfl) ?_
  refine ops_nil ?_
  refine at_then ?_
  refine run_cond (b := ((x0.length : Int) != (x1.length : Int))) rfl (fun hb5156 => ?_) (fun hb5156 => ?_)
  · replace H := cond_t hb5156 H
    refine run_seq ?_
    refine run_region rfl ?_
    refine ops_ex rfl (guard_none rfl) rfl rfl (ex_assign rfl rfl) ?_
    refine ops_nil ?_
    refine at_then ?_
    refine run_ret ?_
    refine at_then_ret ?_
    have hR := Option.some.inj H
    subst hR
    exact at_ret1 rfl rfl ⟨_, rfl, rfl, HM⟩
  · replace H := cond_f hb5156 H
    refine run_skip ?_
    refine at_then ?_
    obtain ⟨o5176, ho5177, H⟩ := bind_some H
    refine run_mid (fun ρ_ w_ => Sum.inr () = o5176 ∧ ρ_ = [] ∧ Mem w [] w_ []) ?_ ?_
    · skip
      refine run_seq ?_
      refine run_region rfl ?_
      refine ops_ex rfl (guard_none rfl) rfl rfl (ex_assign rfl rfl) ?_
      refine ops_nil ?_
      refine at_then ?_
      refine run_block ?_
      refine run_loop (fun k_ ρ_ w_ => ∃ a5184 : Int, laws_eqInt64S.l0 x0 x1 k_ a5184 = some o5176 ∧ ρ_ = [(0, p0), (1, p1), (5, .int .i64 a5184)] ∧ Mem w [] w_ []) k (ρ1 := [(0, p0), (1, p1), (5, .int .i64 0)]) ⟨_, ho5177, rfl, HM⟩ (Sub.cons rfl (Sub.cons rfl (Sub.cons rfl Sub.nil))) ?_
      clear HM ho5177
      rintro k5191 _ w5192 ⟨a5184, ho5177, rfl, HM⟩
      obtain _ | k5191 := k5191
      · exact nomatch ((laws_eqInt64S.l0_z x0 x1 a5184).symm.trans ho5177)
      replace ho5177 := (laws_eqInt64S.l0_s x0 x1 k5191 a5184).symm.trans ho5177
      refine run_seq ?_
      refine run_seq ?_
      refine run_region rfl ?_
      refine ops_ex rfl (guard_none rfl) rfl rfl (ex_move rfl rfl) ?_
      refine ops_ex rfl (guard_none rfl) rfl rfl (ex_move rfl rfl) ?_
      refine ops_ex rfl (guard_none rfl) rfl rfl (ex_len (d := kInt) (xs := x0) rfl rfl Tryz.underlying42 hp0) ?_
      refine ops_ex rfl (guard_none rfl) rfl rfl (ex_lss rfl rfl rfl) ?_
      refine ops_nil ?_
      refine at_then ?_
      refine run_cond (b := (decide (a5184 < (x0.length : Int)))) rfl (fun hb5193 => ?_) (fun hb5193 => ?_)
      · replace ho5177 := cond_t hb5193 ho5177
        refine run_skip ?_
        refine at_then ?_
        refine run_seq ?_
        refine run_block ?_
        refine run_seq ?_
        obtain ⟨e5194, ho5177⟩ := chk_some ho5177
        obtain ⟨e5196, ho5177⟩ := chk_some ho5177
        refine run_drawf (fun w_ => Mem w [] w_ []) [(0, true), (1, true), (2, true), (3, true), (4, true), (5, true), (6, true), (7, true), (8, true)] mixed rfl rfl (by kernel_rfl) ?_
        replace HM := HM.grow (fr_drew _)
        have hS := Mem.suf (M := []) HM
        refine drwp_take rfl (guard_none rfl) rfl rfl (fun w_ hS_ => (ex_move rfl rfl)) hS ?_
        refine drwp_take rfl (guard_none rfl) rfl rfl (fun w_ hS_ => (ex_move rfl rfl)) hS ?_
        have hc5195 : CellsAt _ (sb p0) (so p0 + (a5184).toNat * 1) [(.int .i64 (gt x0 a5184))] := rd_plain hp0 e5194
        refine drwp_take rfl (guard_none rfl) rfl rfl (fun w_ hS_ => (ex_indexAddr (d := kInt) rfl rfl rfl Tryz.underlying42 tsz2 hp0 (idx_lo e5194) (idx_hi e5194))) hS ?_
        refine drwp_take rfl (guard_none rfl) rfl rfl (fun w_ hS_ => (ex_load1 rfl rfl Tryz.underlying2 rfl ((hS_.at_ hc5195) 0 _ rfl))) hS ?_
        refine drwp_take rfl (guard_none rfl) rfl rfl (fun w_ hS_ => (ex_move rfl rfl)) hS ?_
        refine drwp_take rfl (guard_none rfl) rfl rfl (fun w_ hS_ => (ex_move rfl rfl)) hS ?_
        have hc5197 : CellsAt _ (sb p1) (so p1 + (a5184).toNat * 1) [(.int .i64 (gt x1 a5184))] := rd_plain hp1 e5196
        refine drwp_take rfl (guard_none rfl) rfl rfl (fun w_ hS_ => (ex_indexAddr (d := kInt) rfl rfl rfl Tryz.underlying42 tsz2 hp1 (idx_lo e5196) (idx_hi e5196))) hS ?_
        refine drwp_take rfl (guard_none rfl) rfl rfl (fun w_ hS_ => (ex_load1 rfl rfl Tryz.underlying2 rfl ((hS_.at_ hc5197) 0 _ rfl))) hS ?_
        refine drwp_take rfl (guard_none rfl) rfl rfl (fun w_ hS_ => (ex_neq rfl rfl rfl)) hS ?_
        refine drwp_done ?_
        refine at_then ?_
        refine run_cond (b := ((gt x0 a5184) != (gt x1 a5184))) rfl (fun hb5198 => ?_) (fun hb5198 => ?_)
        · replace ho5177 := cond_t hb5198 ho5177
          refine run_seq ?_
          refine run_region rfl ?_
          refine ops_ex rfl (guard_none rfl) rfl rfl (ex_assign rfl rfl) ?_
          refine ops_nil ?_
          refine at_then ?_
          refine run_ret ?_
          refine at_block_ret ?_
          refine at_then_ret ?_
          refine at_then_ret ?_
          refine at_block_ret ?_
          refine at_then_ret ?_
          have hR := Option.some.inj ho5177
          subst hR
          have hT := thn_inl H
          have hR := Option.some.inj hT
          subst hR
          exact at_ret1 rfl rfl ⟨_, rfl, rfl, HM⟩
        · replace ho5177 := cond_f hb5198 ho5177
          refine run_skip ?_
          refine at_block ?_
          refine at_then ?_
          refine run_region rfl ?_
          refine ops_ex rfl (guard_none rfl) rfl rfl (ex_move rfl rfl) ?_
          refine ops_ex rfl (guard_none rfl) rfl rfl (ex_add rfl rfl rfl) ?_
          refine ops_ex rfl (guard_none rfl) rfl rfl (ex_assign rfl rfl) ?_
          refine ops_nil ?_
          exact at_again k5191 (ρ1 := [(0, p0), (1, p1), (5, .int .i64 (wrap64 (a5184 + 1)))]) (Nat.lt_succ_self _) ⟨_, ho5177, rfl, HM⟩ (Sub.cons rfl (Sub.cons rfl (Sub.cons rfl Sub.nil)))
      · replace ho5177 := cond_f hb5193 ho5177
        refine run_exit ?_
        refine at_then_exit ?_
        refine at_then_exit ?_
        refine at_block_exit ?_
        exact at_mid (ρ' := []) ⟨(Option.some.inj ho5177), rfl, HM⟩ Sub.nil
    · rintro _ w5199 ⟨rfl, rfl, HM⟩
      replace H := (thn_inr H)
      refine run_seq ?_
      refine run_region rfl ?_
      refine ops_ex rfl (guard_none rfl) rfl rfl (ex_assign rfl rfl) ?_
      refine ops_nil ?_
      refine at_then ?_
      refine run_ret ?_
      have hR := Option.some.inj H
      subst hR
      exact at_ret1 rfl rfl ⟨_, rfl, rfl, HM⟩

def laws_eqRule.f (k : Nat) (x0 : Rule) (x1 : Rule) : Option Bool := ((laws_eqInt64S.f k x0.fKeys x1.fKeys).bind fun t5220 => (bif !t5220 then some false else (bif (x0.fNeed != x1.fNeed) then some false else (bif (x0.fAfter != x1.fAfter) then some false else some true))))
theorem laws_eqRule.calls {k : Nat} {x0 : Rule} {x1 : Rule} {p0_0 : Value} {p1_0 : Value} {w : World} (hp0_0 : RdS kInt w p0_0 x0.fKeys) (hp1_0 : RdS kInt w p1_0 x1.fKeys) {r : Bool} (H : laws_eqRule.f k x0 x1 = some r) :
    Calls Tryz.prog 76 ([.agg #[p0_0, (.int .i64 x0.fNeed), (.int .i64 x0.fAfter)], .agg #[p1_0, (.int .i64 x1.fNeed), (.int .i64 x1.fAfter)]] : List Value).toArray w (fun e w_ => ∃ v, e = .returned v ∧ v = (.bool r) ∧ Mem w [] w_ []) := by
  have HM := Mem.start w
  refine calls_run (N := 21) Tryz.func76 rfl rfl rfl rfl ?_
  unfold laws_eqRule.f at H
  refine run_seq ?_
  refine run_region rfl ?_
  refine ops_does rfl (guard_none rfl) rfl rfl (does_box (cs := [p0_0, .int .i64 x0.fNeed, .int .i64 x0.fAfter]) rfl rfl rfl HM) ?_
  rintro _ w5215 ⟨b5209, rfl, HM⟩
  refine ops_does rfl (guard_none rfl) rfl rfl (does_box (cs := [p1_0, .int .i64 x1.fNeed, .int .i64 x1.fAfter]) rfl rfl rfl HM) ?_
  rintro _ w5216 ⟨b5212, rfl, HM⟩
  refine ops_ex rfl (guard_none rfl) rfl rfl (ex_assign rfl rfl) ?_
  refine ops_nil ?_
  refine at_then ?_
  refine run_seq ?_
  refine run_seq ?_
  obtain ⟨t5220, h5221, H⟩ := bind_some H
  refine run_region rfl ?_
  refine ops_ex rfl (guard_none rfl) rfl rfl (ex_fieldAddr (off' := 0) rfl rfl Tryz.underlying44 rfl tsz42 rfl) ?_
  refine ops_ex rfl (guard_none rfl) rfl rfl (ex_load1 rfl rfl Tryz.underlying42 rfl ((HM.box_at 1 rfl) 0 _ rfl)) ?_
  refine ops_ex rfl (guard_none rfl) rfl rfl (ex_fieldAddr (off' := 0) rfl rfl Tryz.underlying44 rfl tsz42 rfl) ?_
  refine ops_ex rfl (guard_none rfl) rfl rfl (ex_load1 rfl rfl Tryz.underlying42 rfl ((HM.box_at 0 rfl) 0 _ rfl)) ?_
  refine ops_does rfl (guard_none rfl) rfl rfl (does_callk rfl callok95 rfl (laws_eqInt64S.calls (x0 := x0.fKeys) (x1 := x1.fKeys) (HM.rd hp0_0) (HM.rd hp1_0) h5221)) ?_
  rintro _ w5222 ⟨rfl, hn⟩
  replace HM : Mem w [] w5222 [box b5212 44 [p1_0, .int .i64 x1.fNeed, .int .i64 x1.fAfter], box b5209 44 [p0_0, .int .i64 x0.fNeed, .int .i64 x0.fAfter]] := HM.call hn
  refine ops_ex rfl (guard_none rfl) rfl rfl (ex_not rfl rfl) ?_
  refine ops_nil ?_
  refine at_then ?_
  refine run_cond (b := !t5220) rfl (fun hb5223 => ?_) (fun hb5223 => ?_)
  · replace H := cond_t hb5223 H
    refine run_seq ?_
    refine run_region rfl ?_
    refine ops_ex rfl (guard_none rfl) rfl rfl (ex_assign rfl rfl) ?_
    refine ops_nil ?_
    refine at_then ?_
    refine run_ret ?_
    refine at_then_ret ?_
    replace HM := (HM.front 0 rfl rfl).drop
    replace HM := (HM.front 0 rfl rfl).drop
    have hR := Option.some.inj H
    subst hR
    exact at_ret1 rfl rfl ⟨_, rfl, rfl, HM⟩
  · replace H := cond_f hb5223 H
    refine run_skip ?_
    refine at_then ?_
    refine run_seq ?_
    refine run_seq ?_
    refine run_region rfl ?_
    refine ops_ex rfl (guard_none rfl) rfl rfl (ex_fieldAddr (off' := 1) rfl rfl Tryz.underlying44 rfl tsz2 rfl) ?_
    refine ops_ex rfl (guard_none rfl) rfl rfl (ex_load1 rfl rfl Tryz.underlying2 rfl ((HM.box_at 1 rfl) 1 _ rfl)) ?_
    refine ops_ex rfl (guard_none rfl) rfl rfl (ex_fieldAddr (off' := 1) rfl rfl Tryz.underlying44 rfl tsz2 rfl) ?_
    refine ops_ex rfl (guard_none rfl) rfl rfl (ex_load1 rfl rfl Tryz.underlying2 rfl ((HM.box_at 0 rfl) 1 _ rfl)) ?_
    refine ops_ex rfl (guard_none rfl) rfl rfl (ex_neq rfl rfl rfl) ?_
    refine ops_nil ?_
    refine at_then ?_
    refine run_cond (b := (x0.fNeed != x1.fNeed)) rfl (fun hb5225 => ?_) (fun hb5225 => ?_)
    · replace H := cond_t hb5225 H
      refine run_seq ?_
      refine run_region rfl ?_
      refine ops_ex rfl (guard_none rfl) rfl rfl (ex_assign rfl rfl) ?_
      refine ops_nil ?_
      refine at_then ?_
      refine run_ret ?_
      refine at_then_ret ?_
      replace HM := (HM.front 0 rfl rfl).drop
      replace HM := (HM.front 0 rfl rfl).drop
      have hR := Option.some.inj H
      subst hR
      exact at_ret1 rfl rfl ⟨_, rfl, rfl, HM⟩
    · replace H := cond_f hb5225 H
      refine run_skip ?_
      refine at_then ?_
      refine run_seq ?_
      refine run_seq ?_
      refine run_region rfl ?_
      refine ops_ex rfl (guard_none rfl) rfl rfl (ex_fieldAddr (off' := 2) rfl rfl Tryz.underlying44 rfl tsz2 rfl) ?_
      refine ops_ex rfl (guard_none rfl) rfl rfl (ex_load1 rfl rfl Tryz.underlying2 rfl ((HM.box_at 1 rfl) 2 _ rfl)) ?_
      refine ops_ex rfl (guard_none rfl) rfl rfl (ex_fieldAddr (off' := 2) rfl rfl Tryz.underlying44 rfl tsz2 rfl) ?_
      refine ops_ex rfl (guard_none rfl) rfl rfl (ex_load1 rfl rfl Tryz.underlying2 rfl ((HM.box_at 0 rfl) 2 _ rfl)) ?_
      refine ops_ex rfl (guard_none rfl) rfl rfl (ex_neq rfl rfl rfl) ?_
      refine ops_nil ?_
      refine at_then ?_
      refine run_cond (b := (x0.fAfter != x1.fAfter)) rfl (fun hb5226 => ?_) (fun hb5226 => ?_)
      · replace H := cond_t hb5226 H
        refine run_seq ?_
        refine run_region rfl ?_
        refine ops_ex rfl (guard_none rfl) rfl rfl (ex_assign rfl rfl) ?_
        refine ops_nil ?_
        refine at_then ?_
        refine run_ret ?_
        refine at_then_ret ?_
        replace HM := (HM.front 0 rfl rfl).drop
        replace HM := (HM.front 0 rfl rfl).drop
        have hR := Option.some.inj H
        subst hR
        exact at_ret1 rfl rfl ⟨_, rfl, rfl, HM⟩
      · replace H := cond_f hb5226 H
        refine run_skip ?_
        refine at_then ?_
        refine run_seq ?_
        refine run_region rfl ?_
        refine ops_ex rfl (guard_none rfl) rfl rfl (ex_assign rfl rfl) ?_
        refine ops_nil ?_
        refine at_then ?_
        refine run_ret ?_
        replace HM := (HM.front 0 rfl rfl).drop
        replace HM := (HM.front 0 rfl rfl).drop
        have hR := Option.some.inj H
        subst hR
        exact at_ret1 rfl rfl ⟨_, rfl, rfl, HM⟩

def laws_eqOut.f (k : Nat) (x0 : Out) (x1 : Out) : Option Bool := (bif (x0.fValue != x1.fValue) then some false else ((laws_eqRule.f k x0.fRule x1.fRule).bind fun t5240 => (bif !t5240 then some false else some true)))
theorem laws_eqOut.calls {k : Nat} {x0 : Out} {x1 : Out} {p0_0 : Value} {p1_0 : Value} {w : World} (hp0_0 : RdS kInt w p0_0 x0.fRule.fKeys) (hp1_0 : RdS kInt w p1_0 x1.fRule.fKeys) {r : Bool} (H : laws_eqOut.f k x0 x1 = some r) :
    Calls Tryz.prog 57 ([.agg #[(.int .i64 x0.fValue), p0_0, (.int .i64 x0.fRule.fNeed), (.int .i64 x0.fRule.fAfter)], .agg #[(.int .i64 x1.fValue), p1_0, (.int .i64 x1.fRule.fNeed), (.int .i64 x1.fRule.fAfter)]] : List Value).toArray w (fun e w_ => ∃ v, e = .returned v ∧ v = (.bool r) ∧ Mem w [] w_ []) := by
  have HM := Mem.start w
  refine calls_run (N := 16) Tryz.func57 rfl rfl rfl rfl ?_
  unfold laws_eqOut.f at H
  refine run_seq ?_
  refine run_region rfl ?_
  refine ops_does rfl (guard_none rfl) rfl rfl (does_box (cs := [.int .i64 x0.fValue, p0_0, .int .i64 x0.fRule.fNeed, .int .i64 x0.fRule.fAfter]) rfl rfl rfl HM) ?_
  rintro _ w5236 ⟨b5230, rfl, HM⟩
  refine ops_does rfl (guard_none rfl) rfl rfl (does_box (cs := [.int .i64 x1.fValue, p1_0, .int .i64 x1.fRule.fNeed, .int .i64 x1.fRule.fAfter]) rfl rfl rfl HM) ?_
  rintro _ w5237 ⟨b5233, rfl, HM⟩
  refine ops_ex rfl (guard_none rfl) rfl rfl (ex_assign rfl rfl) ?_
  refine ops_nil ?_
  refine at_then ?_
  refine run_seq ?_
  refine run_seq ?_
  refine run_region rfl ?_
  refine ops_ex rfl (guard_none rfl) rfl rfl (ex_fieldAddr (off' := 0) rfl rfl Tryz.underlying49 rfl tsz2 rfl) ?_
  refine ops_ex rfl (guard_none rfl) rfl rfl (ex_load1 rfl rfl Tryz.underlying2 rfl ((HM.box_at 1 rfl) 0 _ rfl)) ?_
  refine ops_ex rfl (guard_none rfl) rfl rfl (ex_fieldAddr (off' := 0) rfl rfl Tryz.underlying49 rfl tsz2 rfl) ?_
  refine ops_ex rfl (guard_none rfl) rfl rfl (ex_load1 rfl rfl Tryz.underlying2 rfl ((HM.box_at 0 rfl) 0 _ rfl)) ?_
  refine ops_ex rfl (guard_none rfl) rfl rfl (ex_neq rfl rfl rfl) ?_
  refine ops_nil ?_
  refine at_then ?_
  refine run_cond (b := (x0.fValue != x1.fValue)) rfl (fun hb5239 => ?_) (fun hb5239 => ?_)
  · replace H := cond_t hb5239 H
    refine run_seq ?_
    refine run_region rfl ?_
    refine ops_ex rfl (guard_none rfl) rfl rfl (ex_assign rfl rfl) ?_
    refine ops_nil ?_
    refine at_then ?_
    refine run_ret ?_
    refine at_then_ret ?_
    replace HM := (HM.front 0 rfl rfl).drop
    replace HM := (HM.front 0 rfl rfl).drop
    have hR := Option.some.inj H
    subst hR
    exact at_ret1 rfl rfl ⟨_, rfl, rfl, HM⟩
  · replace H := cond_f hb5239 H
    refine run_skip ?_
    refine at_then ?_
    refine run_seq ?_
    refine run_seq ?_
    obtain ⟨t5240, h5241, H⟩ := bind_some H
    refine run_region rfl ?_
    refine ops_ex rfl (guard_none rfl) rfl rfl (ex_fieldAddr (off' := 1) rfl rfl Tryz.underlying49 rfl tsz44 rfl) ?_
    refine ops_ex rfl (guard_none rfl) rfl rfl (ex_loadN (cs := [p0_0, (.int .i64 x0.fRule.fNeed), (.int .i64 x0.fRule.fAfter)]) rfl rfl Tryz.underlying44 rfl tsz44 rfl ((HM.box_at 1 rfl).sub 1 3 rfl)) ?_
    refine ops_ex rfl (guard_none rfl) rfl rfl (ex_fieldAddr (off' := 1) rfl rfl Tryz.underlying49 rfl tsz44 rfl) ?_
    refine ops_ex rfl (guard_none rfl) rfl rfl (ex_loadN (cs := [p1_0, (.int .i64 x1.fRule.fNeed), (.int .i64 x1.fRule.fAfter)]) rfl rfl Tryz.underlying44 rfl tsz44 rfl ((HM.box_at 0 rfl).sub 1 3 rfl)) ?_
    refine ops_does rfl (guard_none rfl) rfl rfl (does_callk rfl callok76 rfl (laws_eqRule.calls (x0 := x0.fRule) (x1 := x1.fRule) (HM.rd hp0_0) (HM.rd hp1_0) h5241)) ?_
    rintro _ w5242 ⟨rfl, hn⟩
    replace HM : Mem w [] w5242 [box b5233 49 [.int .i64 x1.fValue, p1_0, .int .i64 x1.fRule.fNeed, .int .i64 x1.fRule.fAfter], box b5230 49 [.int .i64 x0.fValue, p0_0, .int .i64 x0.fRule.fNeed, .int .i64 x0.fRule.fAfter]] := HM.call hn
    refine ops_ex rfl (guard_none rfl) rfl rfl (ex_not rfl rfl) ?_
    refine ops_nil ?_
    refine at_then ?_
    refine run_cond (b := !t5240) rfl (fun hb5243 => ?_) (fun hb5243 => ?_)
    · replace H := cond_t hb5243 H
      refine run_seq ?_
      refine run_region rfl ?_
      refine ops_ex rfl (guard_none rfl) rfl rfl (ex_assign rfl rfl) ?_
      refine ops_nil ?_
      refine at_then ?_
      refine run_ret ?_
      refine at_then_ret ?_
      replace HM := (HM.front 0 rfl rfl).drop
      replace HM := (HM.front 0 rfl rfl).drop
      have hR := Option.some.inj H
      subst hR
      exact at_ret1 rfl rfl ⟨_, rfl, rfl, HM⟩
    · replace H := cond_f hb5243 H
      refine run_skip ?_
      refine at_then ?_
      refine run_seq ?_
      refine run_region rfl ?_
      refine ops_ex rfl (guard_none rfl) rfl rfl (ex_assign rfl rfl) ?_
      refine ops_nil ?_
      refine at_then ?_
      refine run_ret ?_
      replace HM := (HM.front 0 rfl rfl).drop
      replace HM := (HM.front 0 rfl rfl).drop
      have hR := Option.some.inj H
      subst hR
      exact at_ret1 rfl rfl ⟨_, rfl, rfl, HM⟩

def laws_eqOutS.l0 (x0 : List Out) (x1 : List Out) : Nat → Int → Option (Bool ⊕ Unit)
  | 0, _ => none
  | k + 1, a5327 => (bif (decide (a5327 < (x0.length : Int))) then (chk (idxOk a5327 x0.length) (chk (idxOk a5327 x1.length) ((laws_eqOut.f k (gt x0 a5327) (gt x1 a5327)).bind fun t5351 => (bif !t5351 then some (.inl false) else laws_eqOutS.l0 x0 x1 k (wrap64 (a5327 + 1)))))) else some (.inr ()))
theorem laws_eqOutS.l0_z (x0 : List Out) (x1 : List Out) (a5327 : Int) : laws_eqOutS.l0 x0 x1 0 a5327 = none := rfl
theorem laws_eqOutS.l0_s (x0 : List Out) (x1 : List Out) (k : Nat) (a5327 : Int) : laws_eqOutS.l0 x0 x1 (k + 1) a5327 = (bif (decide (a5327 < (x0.length : Int))) then (chk (idxOk a5327 x0.length) (chk (idxOk a5327 x1.length) ((laws_eqOut.f k (gt x0 a5327) (gt x1 a5327)).bind fun t5351 => (bif !t5351 then some (.inl false) else laws_eqOutS.l0 x0 x1 k (wrap64 (a5327 + 1)))))) else some (.inr ())) := rfl
def laws_eqOutS.f (k : Nat) (x0 : List Out) (x1 : List Out) : Option Bool := (bif ((x0.length : Int) != (x1.length : Int)) then some false else ((laws_eqOutS.l0 x0 x1 k 0).bind fun o5313 => thn o5313 (fun r => some r) (fun _ => some true)))
theorem laws_eqOutS.calls {k : Nat} {x0 : List Out} {x1 : List Out} {p0 : Value} {p1 : Value} {w : World} (hp0 : RdS kOut w p0 x0) (hp1 : RdS kOut w p1 x1) {r : Bool} (H : laws_eqOutS.f k x0 x1 = some r) :
    Calls Tryz.prog 30 ([p0, p1] : List Value).toArray w (fun e w_ => ∃ v, e = .returned v ∧ v = (.bool r) ∧ Mem w [] w_ []) := by
  have HM := Mem.start w
  refine calls_run (N := 27) Tryz.func30 rfl rfl rfl rfl ?_
  unfold laws_eqOutS.f at H
  refine run_seq ?_
  refine run_region rfl ?_
  refine ops_ex rfl (guard_none rfl) rfl rfl (ex_assign rfl rfl) ?_
  refine ops_nil ?_
  refine at_then ?_
  refine run_seq ?_
  refine run_seq ?_
  refine run_region rfl ?_
  refine ops_ex rfl (guard_none rfl) rfl rfl (ex_move rfl rfl) ?_
  refine ops_ex rfl (guard_none rfl) rfl rfl (ex_len (d := kOut) (xs := x0) rfl rfl Tryz.underlying23 hp0) ?_
  refine ops_ex rfl (guard_none rfl) rfl rfl (ex_move rfl rfl) ?_
  refine ops_ex rfl (guard_none rfl) rfl rfl (ex_len (d := kOut) (xs := x1) rfl rfl Tryz.underlying23 hp1) ?_
  refine ops_ex rfl (guard_none rfl) rfl rfl (ex_neq rfl rfl rfl) ?_
  refine ops_nil ?_
  refine at_then ?_
  refine run_cond (b := ((x0.length : Int) != (x1.length : Int))) rfl (fun hb5275 => ?_) (fun hb5275 => ?_)
  · replace H := cond_t hb5275 H
    refine run_seq ?_
    refine run_region rfl ?_
    refine ops_ex rfl (guard_none rfl) rfl rfl (ex_assign rfl rfl) ?_
    refine ops_nil ?_
    refine at_then ?_
    refine run_ret ?_
    refine at_then_ret ?_
    have hR := Option.some.inj H
    subst hR
    exact at_ret1 rfl rfl ⟨_, rfl, rfl, HM⟩
  · replace H := cond_f hb5275 H
    refine run_skip ?_
    refine at_then ?_
    obtain ⟨o5313, ho5314, H⟩ := bind_some H
    refine run_mid (fun ρ_ w_ => Sum.inr () = o5313 ∧ ρ_ = [] ∧ Mem w [] w_ []) ?_ ?_
    · skip
      refine run_seq ?_
      refine run_region rfl ?_
      refine ops_ex rfl (guard_none rfl) rfl rfl (ex_assign rfl rfl) ?_
      refine ops_nil ?_
      refine at_then ?_
      refine run_block ?_
      refine run_loop (fun k_ ρ_ w_ => ∃ a5327 : Int, laws_eqOutS.l0 x0 x1 k_ a5327 = some o5313 ∧ ρ_ = [(0, p0), (1, p1), (5, .int .i64 a5327)] ∧ Mem w [] w_ []) k (ρ1 := [(0, p0), (1, p1), (5, .int .i64 0)]) ⟨_, ho5314, rfl, HM⟩ (Sub.cons rfl (Sub.cons rfl (Sub.cons rfl Sub.nil))) ?_
      clear HM ho5314
      rintro k5340 _ w5341 ⟨a5327, ho5314, rfl, HM⟩
      obtain _ | k5340 := k5340
      · exact nomatch ((laws_eqOutS.l0_z x0 x1 a5327).symm.trans ho5314)
      replace ho5314 := (laws_eqOutS.l0_s x0 x1 k5340 a5327).symm.trans ho5314
      refine run_seq ?_
      refine run_seq ?_
      refine run_region rfl ?_
      refine ops_ex rfl (guard_none rfl) rfl rfl (ex_move rfl rfl) ?_
      refine ops_ex rfl (guard_none rfl) rfl rfl (ex_move rfl rfl) ?_
      refine ops_ex rfl (guard_none rfl) rfl rfl (ex_len (d := kOut) (xs := x0) rfl rfl Tryz.underlying23 hp0) ?_
      refine ops_ex rfl (guard_none rfl) rfl rfl (ex_lss rfl rfl rfl) ?_
      refine ops_nil ?_
      refine at_then ?_
      refine run_cond (b := (decide (a5327 < (x0.length : Int)))) rfl (fun hb5342 => ?_) (fun hb5342 => ?_)
      · replace ho5314 := cond_t hb5342 ho5314
        refine run_skip ?_
        refine at_then ?_
        refine run_seq ?_
        refine run_block ?_
        refine run_seq ?_
        obtain ⟨e5343, ho5314⟩ := chk_some ho5314
        obtain ⟨e5347, ho5314⟩ := chk_some ho5314
        obtain ⟨t5351, h5352, ho5314⟩ := bind_some ho5314
        refine run_drawf (fun w_ => Mem w [] w_ []) [(0, true), (1, true), (2, true), (3, true), (4, true), (5, true), (6, true), (7, true), (8, false), (9, true)] mixed rfl rfl (by kernel_rfl) ?_
        replace HM := HM.grow (fr_drew _)
        have hS := Mem.suf (M := []) HM
        refine drwp_take rfl (guard_none rfl) rfl rfl (fun w_ hS_ => (ex_move rfl rfl)) hS ?_
        refine drwp_take rfl (guard_none rfl) rfl rfl (fun w_ hS_ => (ex_move rfl rfl)) hS ?_
        obtain ⟨kv5345, hc5344, hk5346⟩ : ∃ u, CellsAt _ (sb p0) (so p0 + (a5327).toNat * 4) [(.int .i64 ((gt x0 a5327).fValue)), u, (.int .i64 ((gt x0 a5327).fRule.fNeed)), (.int .i64 ((gt x0 a5327).fRule.fAfter))] ∧ RdS kInt _ u ((gt x0 a5327).fRule.fKeys) := rd_with1 hp0 e5343
        refine drwp_take rfl (guard_none rfl) rfl rfl (fun w_ hS_ => (ex_indexAddr (d := kOut) rfl rfl rfl Tryz.underlying23 tsz49 hp0 (idx_lo e5343) (idx_hi e5343))) hS ?_
        refine drwp_take rfl (guard_none rfl) rfl rfl (fun w_ hS_ => (ex_loadN (cs := [(.int .i64 ((gt x0 a5327).fValue)), kv5345, (.int .i64 ((gt x0 a5327).fRule.fNeed)), (.int .i64 ((gt x0 a5327).fRule.fAfter))]) rfl rfl Tryz.underlying49 rfl tsz49 rfl ((hS_.at_ hc5344).sub 0 4 rfl))) hS ?_
        refine drwp_take rfl (guard_none rfl) rfl rfl (fun w_ hS_ => (ex_move rfl rfl)) hS ?_
        refine drwp_take rfl (guard_none rfl) rfl rfl (fun w_ hS_ => (ex_move rfl rfl)) hS ?_
        obtain ⟨kv5349, hc5348, hk5350⟩ : ∃ u, CellsAt _ (sb p1) (so p1 + (a5327).toNat * 4) [(.int .i64 ((gt x1 a5327).fValue)), u, (.int .i64 ((gt x1 a5327).fRule.fNeed)), (.int .i64 ((gt x1 a5327).fRule.fAfter))] ∧ RdS kInt _ u ((gt x1 a5327).fRule.fKeys) := rd_with1 hp1 e5347
        refine drwp_take rfl (guard_none rfl) rfl rfl (fun w_ hS_ => (ex_indexAddr (d := kOut) rfl rfl rfl Tryz.underlying23 tsz49 hp1 (idx_lo e5347) (idx_hi e5347))) hS ?_
        refine drwp_take rfl (guard_none rfl) rfl rfl (fun w_ hS_ => (ex_loadN (cs := [(.int .i64 ((gt x1 a5327).fValue)), kv5349, (.int .i64 ((gt x1 a5327).fRule.fNeed)), (.int .i64 ((gt x1 a5327).fRule.fAfter))]) rfl rfl Tryz.underlying49 rfl tsz49 rfl ((hS_.at_ hc5348).sub 0 4 rfl))) hS ?_
        refine drwp_one rfl (guard_none rfl) rfl rfl (does_callk rfl callok57 rfl (laws_eqOut.calls (x0 := (gt x0 a5327)) (x1 := (gt x1 a5327)) (HM.rd hk5346) (HM.rd hk5350) h5352)) ?_
        rintro _ w5353 ⟨rfl, hn⟩
        replace HM : Mem w [] w5353 [] := HM.call hn
        refine ⟨Mem.suf (M := []) HM, ?_⟩
        have hS := Mem.suf (M := []) HM
        refine drwp_take rfl (guard_none rfl) rfl rfl (fun w_ hS_ => (ex_not rfl rfl)) hS ?_
        refine drwp_done ?_
        refine at_then ?_
        refine run_cond (b := !t5351) rfl (fun hb5354 => ?_) (fun hb5354 => ?_)
        · replace ho5314 := cond_t hb5354 ho5314
          refine run_seq ?_
          refine run_region rfl ?_
          refine ops_ex rfl (guard_none rfl) rfl rfl (ex_assign rfl rfl) ?_
          refine ops_nil ?_
          refine at_then ?_
          refine run_ret ?_
          refine at_block_ret ?_
          refine at_then_ret ?_
          refine at_then_ret ?_
          refine at_block_ret ?_
          refine at_then_ret ?_
          have hR := Option.some.inj ho5314
          subst hR
          have hT := thn_inl H
          have hR := Option.some.inj hT
          subst hR
          exact at_ret1 rfl rfl ⟨_, rfl, rfl, HM⟩
        · replace ho5314 := cond_f hb5354 ho5314
          refine run_skip ?_
          refine at_block ?_
          refine at_then ?_
          refine run_region rfl ?_
          refine ops_ex rfl (guard_none rfl) rfl rfl (ex_move rfl rfl) ?_
          refine ops_ex rfl (guard_none rfl) rfl rfl (ex_add rfl rfl rfl) ?_
          refine ops_ex rfl (guard_none rfl) rfl rfl (ex_assign rfl rfl) ?_
          refine ops_nil ?_
          exact at_again k5340 (ρ1 := [(0, p0), (1, p1), (5, .int .i64 (wrap64 (a5327 + 1)))]) (Nat.lt_succ_self _) ⟨_, ho5314, rfl, HM⟩ (Sub.cons rfl (Sub.cons rfl (Sub.cons rfl Sub.nil)))
      · replace ho5314 := cond_f hb5342 ho5314
        refine run_exit ?_
        refine at_then_exit ?_
        refine at_then_exit ?_
        refine at_block_exit ?_
        exact at_mid (ρ' := []) ⟨(Option.some.inj ho5314), rfl, HM⟩ Sub.nil
    · rintro _ w5355 ⟨rfl, rfl, HM⟩
      replace H := (thn_inr H)
      refine run_seq ?_
      refine run_region rfl ?_
      refine ops_ex rfl (guard_none rfl) rfl rfl (ex_assign rfl rfl) ?_
      refine ops_nil ?_
      refine at_then ?_
      refine run_ret ?_
      have hR := Option.some.inj H
      subst hR
      exact at_ret1 rfl rfl ⟨_, rfl, rfl, HM⟩

def laws_eqTx.f (k : Nat) (x0 : Tx) (x1 : Tx) : Option Bool := (bif (x0.fKind != x1.fKind) then some false else (bif (x0.fMember != x1.fMember) then some false else ((laws_eqRefS.f k x0.fIns x1.fIns).bind fun t5374 => (bif !t5374 then some false else ((laws_eqOutS.f k x0.fOuts x1.fOuts).bind fun t5378 => (bif !t5378 then some false else some true))))))
theorem laws_eqTx.calls {k : Nat} {x0 : Tx} {x1 : Tx} {p0_0 : Value} {p0_1 : Value} {p1_0 : Value} {p1_1 : Value} {w : World} (hp0_0 : RdS kRef w p0_0 x0.fIns) (hp0_1 : RdS kOut w p0_1 x0.fOuts) (hp1_0 : RdS kRef w p1_0 x1.fIns) (hp1_1 : RdS kOut w p1_1 x1.fOuts) {r : Bool} (H : laws_eqTx.f k x0 x1 = some r) :
    Calls Tryz.prog 11 ([.agg #[(.int .i64 x0.fKind), (.int .i64 x0.fMember), p0_0, p0_1], .agg #[(.int .i64 x1.fKind), (.int .i64 x1.fMember), p1_0, p1_1]] : List Value).toArray w (fun e w_ => ∃ v, e = .returned v ∧ v = (.bool r) ∧ Mem w [] w_ []) := by
  have HM := Mem.start w
  refine calls_run (N := 27) Tryz.func11 rfl rfl rfl rfl ?_
  unfold laws_eqTx.f at H
  refine run_seq ?_
  refine run_region rfl ?_
  refine ops_does rfl (guard_none rfl) rfl rfl (does_box (cs := [.int .i64 x0.fKind, .int .i64 x0.fMember, p0_0, p0_1]) rfl rfl rfl HM) ?_
  rintro _ w5365 ⟨b5359, rfl, HM⟩
  refine ops_does rfl (guard_none rfl) rfl rfl (does_box (cs := [.int .i64 x1.fKind, .int .i64 x1.fMember, p1_0, p1_1]) rfl rfl rfl HM) ?_
  rintro _ w5366 ⟨b5362, rfl, HM⟩
  refine ops_ex rfl (guard_none rfl) rfl rfl (ex_assign rfl rfl) ?_
  refine ops_nil ?_
  refine at_then ?_
  refine run_seq ?_
  refine run_seq ?_
  refine run_region rfl ?_
  refine ops_ex rfl (guard_none rfl) rfl rfl (ex_fieldAddr (off' := 0) rfl rfl Tryz.underlying25 rfl tsz2 rfl) ?_
  refine ops_ex rfl (guard_none rfl) rfl rfl (ex_load1 rfl rfl Tryz.underlying2 rfl ((HM.box_at 1 rfl) 0 _ rfl)) ?_
  refine ops_ex rfl (guard_none rfl) rfl rfl (ex_fieldAddr (off' := 0) rfl rfl Tryz.underlying25 rfl tsz2 rfl) ?_
  refine ops_ex rfl (guard_none rfl) rfl rfl (ex_load1 rfl rfl Tryz.underlying2 rfl ((HM.box_at 0 rfl) 0 _ rfl)) ?_
  refine ops_ex rfl (guard_none rfl) rfl rfl (ex_neq rfl rfl rfl) ?_
  refine ops_nil ?_
  refine at_then ?_
  refine run_cond (b := (x0.fKind != x1.fKind)) rfl (fun hb5368 => ?_) (fun hb5368 => ?_)
  · replace H := cond_t hb5368 H
    refine run_seq ?_
    refine run_region rfl ?_
    refine ops_ex rfl (guard_none rfl) rfl rfl (ex_assign rfl rfl) ?_
    refine ops_nil ?_
    refine at_then ?_
    refine run_ret ?_
    refine at_then_ret ?_
    replace HM := (HM.front 0 rfl rfl).drop
    replace HM := (HM.front 0 rfl rfl).drop
    have hR := Option.some.inj H
    subst hR
    exact at_ret1 rfl rfl ⟨_, rfl, rfl, HM⟩
  · replace H := cond_f hb5368 H
    refine run_skip ?_
    refine at_then ?_
    refine run_seq ?_
    refine run_seq ?_
    refine run_region rfl ?_
    refine ops_ex rfl (guard_none rfl) rfl rfl (ex_fieldAddr (off' := 1) rfl rfl Tryz.underlying25 rfl tsz2 rfl) ?_
    refine ops_ex rfl (guard_none rfl) rfl rfl (ex_load1 rfl rfl Tryz.underlying2 rfl ((HM.box_at 1 rfl) 1 _ rfl)) ?_
    refine ops_ex rfl (guard_none rfl) rfl rfl (ex_fieldAddr (off' := 1) rfl rfl Tryz.underlying25 rfl tsz2 rfl) ?_
    refine ops_ex rfl (guard_none rfl) rfl rfl (ex_load1 rfl rfl Tryz.underlying2 rfl ((HM.box_at 0 rfl) 1 _ rfl)) ?_
    refine ops_ex rfl (guard_none rfl) rfl rfl (ex_neq rfl rfl rfl) ?_
    refine ops_nil ?_
    refine at_then ?_
    refine run_cond (b := (x0.fMember != x1.fMember)) rfl (fun hb5370 => ?_) (fun hb5370 => ?_)
    · replace H := cond_t hb5370 H
      refine run_seq ?_
      refine run_region rfl ?_
      refine ops_ex rfl (guard_none rfl) rfl rfl (ex_assign rfl rfl) ?_
      refine ops_nil ?_
      refine at_then ?_
      refine run_ret ?_
      refine at_then_ret ?_
      replace HM := (HM.front 0 rfl rfl).drop
      replace HM := (HM.front 0 rfl rfl).drop
      have hR := Option.some.inj H
      subst hR
      exact at_ret1 rfl rfl ⟨_, rfl, rfl, HM⟩
    · replace H := cond_f hb5370 H
      refine run_skip ?_
      refine at_then ?_
      refine run_seq ?_
      refine run_seq ?_
      obtain ⟨t5374, h5375, H⟩ := bind_some H
      refine run_region rfl ?_
      refine ops_ex rfl (guard_none rfl) rfl rfl (ex_fieldAddr (off' := 2) rfl rfl Tryz.underlying25 rfl tsz22 rfl) ?_
      refine ops_ex rfl (guard_none rfl) rfl rfl (ex_load1 rfl rfl Tryz.underlying22 rfl ((HM.box_at 1 rfl) 2 _ rfl)) ?_
      refine ops_ex rfl (guard_none rfl) rfl rfl (ex_fieldAddr (off' := 2) rfl rfl Tryz.underlying25 rfl tsz22 rfl) ?_
      refine ops_ex rfl (guard_none rfl) rfl rfl (ex_load1 rfl rfl Tryz.underlying22 rfl ((HM.box_at 0 rfl) 2 _ rfl)) ?_
      refine ops_does rfl (guard_none rfl) rfl rfl (does_callk rfl callok29 rfl (laws_eqRefS.calls (x0 := x0.fIns) (x1 := x1.fIns) (HM.rd hp0_0) (HM.rd hp1_0) h5375)) ?_
      rintro _ w5376 ⟨rfl, hn⟩
      replace HM : Mem w [] w5376 [box b5362 25 [.int .i64 x1.fKind, .int .i64 x1.fMember, p1_0, p1_1], box b5359 25 [.int .i64 x0.fKind, .int .i64 x0.fMember, p0_0, p0_1]] := HM.call hn
      refine ops_ex rfl (guard_none rfl) rfl rfl (ex_not rfl rfl) ?_
      refine ops_nil ?_
      refine at_then ?_
      refine run_cond (b := !t5374) rfl (fun hb5377 => ?_) (fun hb5377 => ?_)
      · replace H := cond_t hb5377 H
        refine run_seq ?_
        refine run_region rfl ?_
        refine ops_ex rfl (guard_none rfl) rfl rfl (ex_assign rfl rfl) ?_
        refine ops_nil ?_
        refine at_then ?_
        refine run_ret ?_
        refine at_then_ret ?_
        replace HM := (HM.front 0 rfl rfl).drop
        replace HM := (HM.front 0 rfl rfl).drop
        have hR := Option.some.inj H
        subst hR
        exact at_ret1 rfl rfl ⟨_, rfl, rfl, HM⟩
      · replace H := cond_f hb5377 H
        refine run_skip ?_
        refine at_then ?_
        refine run_seq ?_
        refine run_seq ?_
        obtain ⟨t5378, h5379, H⟩ := bind_some H
        refine run_region rfl ?_
        refine ops_ex rfl (guard_none rfl) rfl rfl (ex_fieldAddr (off' := 3) rfl rfl Tryz.underlying25 rfl tsz23 rfl) ?_
        refine ops_ex rfl (guard_none rfl) rfl rfl (ex_load1 rfl rfl Tryz.underlying23 rfl ((HM.box_at 1 rfl) 3 _ rfl)) ?_
        refine ops_ex rfl (guard_none rfl) rfl rfl (ex_fieldAddr (off' := 3) rfl rfl Tryz.underlying25 rfl tsz23 rfl) ?_
        refine ops_ex rfl (guard_none rfl) rfl rfl (ex_load1 rfl rfl Tryz.underlying23 rfl ((HM.box_at 0 rfl) 3 _ rfl)) ?_
        refine ops_does rfl (guard_none rfl) rfl rfl (does_callk rfl callok30 rfl (laws_eqOutS.calls (x0 := x0.fOuts) (x1 := x1.fOuts) (HM.rd hp0_1) (HM.rd hp1_1) h5379)) ?_
        rintro _ w5380 ⟨rfl, hn⟩
        replace HM : Mem w [] w5380 [box b5362 25 [.int .i64 x1.fKind, .int .i64 x1.fMember, p1_0, p1_1], box b5359 25 [.int .i64 x0.fKind, .int .i64 x0.fMember, p0_0, p0_1]] := HM.call hn
        refine ops_ex rfl (guard_none rfl) rfl rfl (ex_not rfl rfl) ?_
        refine ops_nil ?_
        refine at_then ?_
        refine run_cond (b := !t5378) rfl (fun hb5381 => ?_) (fun hb5381 => ?_)
        · replace H := cond_t hb5381 H
          refine run_seq ?_
          refine run_region rfl ?_
          refine ops_ex rfl (guard_none rfl) rfl rfl (ex_assign rfl rfl) ?_
          refine ops_nil ?_
          refine at_then ?_
          refine run_ret ?_
          refine at_then_ret ?_
          replace HM := (HM.front 0 rfl rfl).drop
          replace HM := (HM.front 0 rfl rfl).drop
          have hR := Option.some.inj H
          subst hR
          exact at_ret1 rfl rfl ⟨_, rfl, rfl, HM⟩
        · replace H := cond_f hb5381 H
          refine run_skip ?_
          refine at_then ?_
          refine run_seq ?_
          refine run_region rfl ?_
          refine ops_ex rfl (guard_none rfl) rfl rfl (ex_assign rfl rfl) ?_
          refine ops_nil ?_
          refine at_then ?_
          refine run_ret ?_
          replace HM := (HM.front 0 rfl rfl).drop
          replace HM := (HM.front 0 rfl rfl).drop
          have hR := Option.some.inj H
          subst hR
          exact at_ret1 rfl rfl ⟨_, rfl, rfl, HM⟩

def laws_eqTxResult.f (k : Nat) (x0 : TxResult) (x1 : TxResult) : Option Bool := (bif (x0.fCode != x1.fCode) then some false else ((laws_eqTx.f k x0.fTx x1.fTx).bind fun t5395 => (bif !t5395 then some false else some true)))
theorem laws_eqTxResult.calls {k : Nat} {x0 : TxResult} {x1 : TxResult} {p0_0 : Value} {p0_1 : Value} {p1_0 : Value} {p1_1 : Value} {w : World} (hp0_0 : RdS kRef w p0_0 x0.fTx.fIns) (hp0_1 : RdS kOut w p0_1 x0.fTx.fOuts) (hp1_0 : RdS kRef w p1_0 x1.fTx.fIns) (hp1_1 : RdS kOut w p1_1 x1.fTx.fOuts) {r : Bool} (H : laws_eqTxResult.f k x0 x1 = some r) :
    Calls Tryz.prog 6 ([.agg #[(.int .i64 x0.fCode), (.int .i64 x0.fTx.fKind), (.int .i64 x0.fTx.fMember), p0_0, p0_1], .agg #[(.int .i64 x1.fCode), (.int .i64 x1.fTx.fKind), (.int .i64 x1.fTx.fMember), p1_0, p1_1]] : List Value).toArray w (fun e w_ => ∃ v, e = .returned v ∧ v = (.bool r) ∧ Mem w [] w_ []) := by
  have HM := Mem.start w
  refine calls_run (N := 16) Tryz.func6 rfl rfl rfl rfl ?_
  unfold laws_eqTxResult.f at H
  refine run_seq ?_
  refine run_region rfl ?_
  refine ops_does rfl (guard_none rfl) rfl rfl (does_box (cs := [.int .i64 x0.fCode, .int .i64 x0.fTx.fKind, .int .i64 x0.fTx.fMember, p0_0, p0_1]) rfl rfl rfl HM) ?_
  rintro _ w5391 ⟨b5385, rfl, HM⟩
  refine ops_does rfl (guard_none rfl) rfl rfl (does_box (cs := [.int .i64 x1.fCode, .int .i64 x1.fTx.fKind, .int .i64 x1.fTx.fMember, p1_0, p1_1]) rfl rfl rfl HM) ?_
  rintro _ w5392 ⟨b5388, rfl, HM⟩
  refine ops_ex rfl (guard_none rfl) rfl rfl (ex_assign rfl rfl) ?_
  refine ops_nil ?_
  refine at_then ?_
  refine run_seq ?_
  refine run_seq ?_
  refine run_region rfl ?_
  refine ops_ex rfl (guard_none rfl) rfl rfl (ex_fieldAddr (off' := 0) rfl rfl Tryz.underlying27 rfl tsz2 rfl) ?_
  refine ops_ex rfl (guard_none rfl) rfl rfl (ex_load1 rfl rfl Tryz.underlying2 rfl ((HM.box_at 1 rfl) 0 _ rfl)) ?_
  refine ops_ex rfl (guard_none rfl) rfl rfl (ex_fieldAddr (off' := 0) rfl rfl Tryz.underlying27 rfl tsz2 rfl) ?_
  refine ops_ex rfl (guard_none rfl) rfl rfl (ex_load1 rfl rfl Tryz.underlying2 rfl ((HM.box_at 0 rfl) 0 _ rfl)) ?_
  refine ops_ex rfl (guard_none rfl) rfl rfl (ex_neq rfl rfl rfl) ?_
  refine ops_nil ?_
  refine at_then ?_
  refine run_cond (b := (x0.fCode != x1.fCode)) rfl (fun hb5394 => ?_) (fun hb5394 => ?_)
  · replace H := cond_t hb5394 H
    refine run_seq ?_
    refine run_region rfl ?_
    refine ops_ex rfl (guard_none rfl) rfl rfl (ex_assign rfl rfl) ?_
    refine ops_nil ?_
    refine at_then ?_
    refine run_ret ?_
    refine at_then_ret ?_
    replace HM := (HM.front 0 rfl rfl).drop
    replace HM := (HM.front 0 rfl rfl).drop
    have hR := Option.some.inj H
    subst hR
    exact at_ret1 rfl rfl ⟨_, rfl, rfl, HM⟩
  · replace H := cond_f hb5394 H
    refine run_skip ?_
    refine at_then ?_
    refine run_seq ?_
    refine run_seq ?_
    obtain ⟨t5395, h5396, H⟩ := bind_some H
    refine run_region rfl ?_
    refine ops_ex rfl (guard_none rfl) rfl rfl (ex_fieldAddr (off' := 1) rfl rfl Tryz.underlying27 rfl tsz25 rfl) ?_
    refine ops_ex rfl (guard_none rfl) rfl rfl (ex_loadN (cs := [(.int .i64 x0.fTx.fKind), (.int .i64 x0.fTx.fMember), p0_0, p0_1]) rfl rfl Tryz.underlying25 rfl tsz25 rfl ((HM.box_at 1 rfl).sub 1 4 rfl)) ?_
    refine ops_ex rfl (guard_none rfl) rfl rfl (ex_fieldAddr (off' := 1) rfl rfl Tryz.underlying27 rfl tsz25 rfl) ?_
    refine ops_ex rfl (guard_none rfl) rfl rfl (ex_loadN (cs := [(.int .i64 x1.fTx.fKind), (.int .i64 x1.fTx.fMember), p1_0, p1_1]) rfl rfl Tryz.underlying25 rfl tsz25 rfl ((HM.box_at 0 rfl).sub 1 4 rfl)) ?_
    refine ops_does rfl (guard_none rfl) rfl rfl (does_callk rfl callok11 rfl (laws_eqTx.calls (x0 := x0.fTx) (x1 := x1.fTx) (HM.rd hp0_0) (HM.rd hp0_1) (HM.rd hp1_0) (HM.rd hp1_1) h5396)) ?_
    rintro _ w5397 ⟨rfl, hn⟩
    replace HM : Mem w [] w5397 [box b5388 27 [.int .i64 x1.fCode, .int .i64 x1.fTx.fKind, .int .i64 x1.fTx.fMember, p1_0, p1_1], box b5385 27 [.int .i64 x0.fCode, .int .i64 x0.fTx.fKind, .int .i64 x0.fTx.fMember, p0_0, p0_1]] := HM.call hn
    refine ops_ex rfl (guard_none rfl) rfl rfl (ex_not rfl rfl) ?_
    refine ops_nil ?_
    refine at_then ?_
    refine run_cond (b := !t5395) rfl (fun hb5398 => ?_) (fun hb5398 => ?_)
    · replace H := cond_t hb5398 H
      refine run_seq ?_
      refine run_region rfl ?_
      refine ops_ex rfl (guard_none rfl) rfl rfl (ex_assign rfl rfl) ?_
      refine ops_nil ?_
      refine at_then ?_
      refine run_ret ?_
      refine at_then_ret ?_
      replace HM := (HM.front 0 rfl rfl).drop
      replace HM := (HM.front 0 rfl rfl).drop
      have hR := Option.some.inj H
      subst hR
      exact at_ret1 rfl rfl ⟨_, rfl, rfl, HM⟩
    · replace H := cond_f hb5398 H
      refine run_skip ?_
      refine at_then ?_
      refine run_seq ?_
      refine run_region rfl ?_
      refine ops_ex rfl (guard_none rfl) rfl rfl (ex_assign rfl rfl) ?_
      refine ops_nil ?_
      refine at_then ?_
      refine run_ret ?_
      replace HM := (HM.front 0 rfl rfl).drop
      replace HM := (HM.front 0 rfl rfl).drop
      have hR := Option.some.inj H
      subst hR
      exact at_ret1 rfl rfl ⟨_, rfl, rfl, HM⟩

def laws_markRefS.l0  : Nat → (List Ref) → Int → Int → Option ((List Ref) × Int)
  | 0, _, _, _ => none
  | k + 1, a5454, a5456, a5457 => (bif (decide (a5457 < (a5454.length : Int))) then (chk (idxOk a5457 a5454.length) (laws_markRefS.l0 k (a5454.set (a5457).toNat (⟨a5456, wrap64 (a5456 + 1)⟩ : Ref)) (wrap64 ((wrap64 (a5456 + 1)) + 1)) (wrap64 (a5457 + 1)))) else some (a5454, a5456))
theorem laws_markRefS.l0_z  (a5454 : List Ref) (a5456 : Int) (a5457 : Int) : laws_markRefS.l0 0 a5454 a5456 a5457 = none := rfl
theorem laws_markRefS.l0_s  (k : Nat) (a5454 : List Ref) (a5456 : Int) (a5457 : Int) : laws_markRefS.l0 (k + 1) a5454 a5456 a5457 = (bif (decide (a5457 < (a5454.length : Int))) then (chk (idxOk a5457 a5454.length) (laws_markRefS.l0 k (a5454.set (a5457).toNat (⟨a5456, wrap64 (a5456 + 1)⟩ : Ref)) (wrap64 ((wrap64 (a5456 + 1)) + 1)) (wrap64 (a5457 + 1)))) else some (a5454, a5456)) := rfl
def laws_markRefS.f (k : Nat) (x0 : List Ref) (x1 : Int) : Option (Int × (List Ref)) := ((laws_markRefS.l0 k x0 x1 0).bind (cur2 (fun a5446 a5448 => some (a5448, a5446))))
theorem laws_markRefS.calls {k : Nat} {x0 : List Ref} {x1 : Int} {p0 : Value} {w wo : World} {X : List Nat} (hwo : Olds wo w X) (hX : Hold w [own kRef 60 p0 x0] X) (hXn : X.Nodup) (hXl : ∀ b ∈ X, b < w.heap.size)  {r : Int × (List Ref)} (H : laws_markRefS.f k x0 x1 = some r) :
    Calls Tryz.prog 31 ([p0, .int .i64 x1] : List Value).toArray w (fun e w_ => ∃ v, e = .returned v ∧ v = (.int .i64 r.1) ∧ Mem w X w_ [own kRef 60 p0 r.2]) := by
  have HM := Mem.startX hX hXn hXl
  refine calls_run (N := 27) Tryz.func31 rfl rfl rfl rfl ?_
  unfold laws_markRefS.f at H
  refine run_seq ?_
  refine run_region rfl ?_
  refine ops_ex rfl (guard_none rfl) rfl rfl (ex_assign rfl rfl) ?_
  refine ops_nil ?_
  refine at_then ?_
  obtain ⟨o5449, ho5450, H⟩ := bind_some H
  refine run_mid (fun ρ_ w_ => ∃ a5446 : List Ref, ∃ a5448 : Int, (a5446, a5448) = o5449 ∧ ρ_ = [(1, .int .i64 a5448)] ∧ Mem w X w_ [own kRef 60 p0 a5446]) ?_ ?_
  · clear H
    refine run_seq ?_
    refine run_region rfl ?_
    refine ops_ex rfl (guard_none rfl) rfl rfl (ex_assign rfl rfl) ?_
    refine ops_nil ?_
    refine at_then ?_
    refine run_block ?_
    refine run_loop (fun k_ ρ_ w_ => ∃ a5454 : List Ref, ∃ a5456 : Int, ∃ a5457 : Int, laws_markRefS.l0 k_ a5454 a5456 a5457 = some o5449 ∧ ρ_ = [(0, p0), (1, .int .i64 a5456), (5, .int .i64 a5457)] ∧ Mem w X w_ [own kRef 60 p0 a5454]) k (ρ1 := [(0, p0), (1, .int .i64 x1), (5, .int .i64 0)]) ⟨_, _, _, ho5450, rfl, HM⟩ (Sub.cons rfl (Sub.cons rfl (Sub.cons rfl Sub.nil))) ?_
    clear HM ho5450
    rintro k5461 _ w5462 ⟨a5454, a5456, a5457, ho5450, rfl, HM⟩
    obtain _ | k5461 := k5461
    · exact nomatch ((laws_markRefS.l0_z a5454 a5456 a5457).symm.trans ho5450)
    replace ho5450 := (laws_markRefS.l0_s k5461 a5454 a5456 a5457).symm.trans ho5450
    refine run_seq ?_
    refine run_seq ?_
    refine run_region rfl ?_
    refine ops_ex rfl (guard_none rfl) rfl rfl (ex_move rfl rfl) ?_
    refine ops_ex rfl (guard_none rfl) rfl rfl (ex_move rfl rfl) ?_
    refine ops_ex rfl (guard_none rfl) rfl rfl (ex_len (d := kRef) (xs := a5454) rfl rfl Tryz.underlying22 (HM.own_rd 0 rfl)) ?_
    refine ops_ex rfl (guard_none rfl) rfl rfl (ex_lss rfl rfl rfl) ?_
    refine ops_nil ?_
    refine at_then ?_
    refine run_cond (b := (decide (a5457 < (a5454.length : Int)))) rfl (fun hb5463 => ?_) (fun hb5463 => ?_)
    · replace ho5450 := cond_t hb5463 ho5450
      refine run_skip ?_
      refine at_then ?_
      refine run_seq ?_
      refine run_block ?_
      refine run_seq ?_
      obtain ⟨e5464, ho5450⟩ := chk_some ho5450
      refine run_region rfl ?_
      refine ops_ex rfl (guard_none rfl) rfl rfl (ex_move rfl rfl) ?_
      refine ops_ex rfl (guard_none rfl) rfl rfl (ex_move rfl rfl) ?_
      refine ops_ex rfl (guard_none rfl) rfl rfl (ex_move rfl rfl) ?_
      refine ops_ex rfl (guard_none rfl) rfl rfl (ex_indexAddr (d := kRef) rfl rfl rfl Tryz.underlying22 tsz60 (HM.own_rd 0 rfl) (idx_lo e5464) (idx_hi e5464)) ?_
      refine ops_ex rfl (guard_none rfl) rfl rfl (ex_fieldAddr (off' := so p0 + (a5457).toNat * 2) rfl rfl Tryz.underlying60 rfl tsz2 rfl) ?_
      refine ops_doesS rfl (guard_none rfl) rfl (does_setField (fo := 0) (vs := [(.int .i64 a5456)]) (y := (⟨a5456, (gt a5454 a5457).fAt⟩ : Ref)) kRef rfl rfl rfl rfl rfl tsz2 (Ones.int Ones.nil) rfl rfl (idx_nat e5464) (fun _ _ _ h => by rw [← gt_eq (idx_nat e5464)] at h; obtain ⟨rfl, h2⟩ := h; exact ⟨rfl, h2⟩) HM) ?_
      rintro w5465 HM
      refine ops_nil ?_
      refine at_then ?_
      refine run_seq ?_
      refine run_region rfl ?_
      refine ops_ex rfl (guard_none rfl) rfl rfl (ex_move rfl rfl) ?_
      refine ops_ex rfl (guard_none rfl) rfl rfl (ex_add rfl rfl rfl) ?_
      refine ops_ex rfl (guard_none rfl) rfl rfl (ex_assign rfl rfl) ?_
      refine ops_nil ?_
      refine at_then ?_
      refine run_seq ?_
      refine run_region rfl ?_
      refine ops_ex rfl (guard_none rfl) rfl rfl (ex_move rfl rfl) ?_
      refine ops_ex rfl (guard_none rfl) rfl rfl (ex_move rfl rfl) ?_
      refine ops_ex rfl (guard_none rfl) rfl rfl (ex_move rfl rfl) ?_
      have e5466 : idxOk a5457 (a5454.set (a5457).toNat (⟨a5456, (gt a5454 a5457).fAt⟩ : Ref)).length = true := len_set e5464
      refine ops_ex rfl (guard_none rfl) rfl rfl (ex_indexAddr (d := kRef) rfl rfl rfl Tryz.underlying22 tsz60 (HM.own_rd 0 rfl) (idx_lo e5466) (idx_hi e5466)) ?_
      refine ops_ex rfl (guard_none rfl) rfl rfl (ex_fieldAddr (off' := so p0 + (a5457).toNat * 2 + 1) rfl rfl Tryz.underlying60 rfl tsz2 rfl) ?_
      refine ops_doesS rfl (guard_none rfl) rfl (does_setField (fo := 1) (vs := [(.int .i64 (wrap64 (a5456 + 1)))]) (y := (⟨a5456, wrap64 (a5456 + 1)⟩ : Ref)) kRef rfl rfl rfl rfl rfl tsz2 (Ones.int Ones.nil) rfl rfl (idx_nat e5466) (fun _ _ _ h => by rw [List.getElem_set_self] at h; obtain ⟨rfl, h2⟩ := h; exact ⟨rfl, h2⟩) HM) ?_
      rintro w5467 HM
      replace HM := HM.set2
      refine ops_nil ?_
      refine at_then ?_
      refine run_region rfl ?_
      refine ops_ex rfl (guard_none rfl) rfl rfl (ex_move rfl rfl) ?_
      refine ops_ex rfl (guard_none rfl) rfl rfl (ex_add rfl rfl rfl) ?_
      refine ops_ex rfl (guard_none rfl) rfl rfl (ex_assign rfl rfl) ?_
      refine ops_nil ?_
      refine at_block ?_
      refine at_then ?_
      refine run_region rfl ?_
      refine ops_ex rfl (guard_none rfl) rfl rfl (ex_move rfl rfl) ?_
      refine ops_ex rfl (guard_none rfl) rfl rfl (ex_add rfl rfl rfl) ?_
      refine ops_ex rfl (guard_none rfl) rfl rfl (ex_assign rfl rfl) ?_
      refine ops_nil ?_
      exact at_again k5461 (ρ1 := [(0, p0), (1, .int .i64 (wrap64 ((wrap64 (a5456 + 1)) + 1))), (5, .int .i64 (wrap64 (a5457 + 1)))]) (Nat.lt_succ_self _) ⟨_, _, _, ho5450, rfl, HM⟩ (Sub.cons rfl (Sub.cons rfl (Sub.cons rfl Sub.nil)))
    · replace ho5450 := cond_f hb5463 ho5450
      refine run_exit ?_
      refine at_then_exit ?_
      refine at_then_exit ?_
      refine at_block_exit ?_
      exact at_mid (ρ' := [(1, .int .i64 a5456)]) ⟨_, _, (Option.some.inj ho5450), rfl, HM⟩ (Sub.cons rfl Sub.nil)
  · rintro _ w5468 ⟨a5446, a5448, rfl, rfl, HM⟩
    replace H := cur2_mk H
    refine run_seq ?_
    refine run_region rfl ?_
    refine ops_ex rfl (guard_none rfl) rfl rfl (ex_move rfl rfl) ?_
    refine ops_ex rfl (guard_none rfl) rfl rfl (ex_assign rfl rfl) ?_
    refine ops_nil ?_
    refine at_then ?_
    refine run_ret ?_
    have hR := Option.some.inj H
    subst hR
    exact at_ret1 rfl rfl ⟨_, rfl, rfl, HM⟩
end Go.Proofs.YtcpacdbdehphkaaGreatDoor.Zk
