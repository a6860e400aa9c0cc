/- What functions of the program compute, each as a plain function, and that they do. Conditions: as each theorem states them. -/
import Derived.Test.YtdhkcglfeiapoaaDoorBlockTextZkF1
namespace Go.Proofs.YtdhkcglfeiapoaaDoor.Zk
open Go Go.RowKit Go.IntWalk Go.Proofs
set_option linter.unusedVariables false
set_option linter.unusedSimpArgs false
set_option maxRecDepth 100000
set_option maxHeartbeats 4000000
def impl_blockText.f (k : Nat) (x0 : Block) : Option ByteArray := ((bif (decide (0 < (x0.fTxs.length : Int))) then ((impl_joined.f k x0.fTxs (⟨#[43]⟩ : ByteArray)).bind fun t1124 => some t1124) else some (⟨#[45]⟩ : ByteArray)).bind (fun a1120 => ((impl_joined.f k ([x0.fPrev, x0.fHeight, x0.fMiner] : List Int) (⟨#[32]⟩ : ByteArray)).bind fun t1131 => (chk (leB ((⟨#[98, 108, 111, 99, 107, 32]⟩ : ByteArray).size + t1131.size) 9223372036854775807) (chk (leB (((⟨#[98, 108, 111, 99, 107, 32]⟩ : ByteArray) ++ t1131).size + (⟨#[32]⟩ : ByteArray).size) 9223372036854775807) (chk (leB ((((⟨#[98, 108, 111, 99, 107, 32]⟩ : ByteArray) ++ t1131) ++ (⟨#[32]⟩ : ByteArray)).size + a1120.size) 9223372036854775807) (some ((((⟨#[98, 108, 111, 99, 107, 32]⟩ : ByteArray) ++ t1131) ++ (⟨#[32]⟩ : ByteArray)) ++ a1120))))))))
theorem impl_blockText.calls {k : Nat} {x0 : Block} {p0_0 : Value} {w : World} (htab : Tab w) (hp0_0 : RdS kInt w p0_0 x0.fTxs) {r : ByteArray} (H : impl_blockText.f k x0 = some r) :
    Calls Tryd.prog 26 ([.agg #[(.int .i64 x0.fPrev), (.int .i64 x0.fHeight), (.int .i64 x0.fMiner), p0_0]] : List Value).toArray w (fun e w_ => ∃ v, e = .returned v ∧ v = (.string r) ∧ Mem w [] w_ []) := by
  have HM := Mem.start w
  refine calls_run (N := 23) Tryd.func26 rfl rfl rfl rfl ?_
  unfold impl_blockText.f at H
  refine run_seq ?_
  refine run_region rfl ?_
  refine ops_does rfl (guard_none rfl) rfl rfl (does_box (cs := [.int .i64 x0.fPrev, .int .i64 x0.fHeight, .int .i64 x0.fMiner, p0_0]) rfl rfl rfl HM) ?_
  rintro _ w1113 ⟨b1110, rfl, HM⟩
  refine ops_ex rfl (guard_none rfl) rfl rfl (ex_assign rfl rfl) ?_
  refine ops_nil ?_
  refine at_then ?_
  refine run_seq ?_
  refine run_region rfl ?_
  refine ops_ex rfl (guard_none rfl) rfl rfl (ex_assign rfl rfl) ?_
  refine ops_nil ?_
  refine at_then ?_
  obtain ⟨o1121, ho1122, H⟩ := bind_some H
  refine run_mid (fun ρ_ w_ => ∃ a1120 : ByteArray, a1120 = o1121 ∧ ρ_ = [(1, .pointer (some ⟨b1110, 0, none⟩)), (3, .string a1120)] ∧ Mem w [] w_ [box b1110 38 [.int .i64 x0.fPrev, .int .i64 x0.fHeight, .int .i64 x0.fMiner, p0_0]]) ?_ ?_
  · clear H
    refine run_seq ?_
    refine run_region rfl ?_
    refine ops_ex rfl (guard_none rfl) rfl rfl (ex_fieldAddr (off' := 3) rfl rfl Tryd.underlying38 rfl tsz22 rfl) ?_
    refine ops_ex rfl (guard_none rfl) rfl rfl (ex_load1 rfl rfl Tryd.underlying22 rfl ((HM.box_at 0 rfl) 3 _ rfl)) ?_
    refine ops_ex rfl (guard_none rfl) rfl rfl (ex_len (d := kInt) (xs := x0.fTxs) rfl rfl Tryd.underlying22 hp0_0) ?_
    refine ops_ex rfl (guard_none rfl) rfl rfl (ex_gtr rfl rfl rfl) ?_
    refine ops_nil ?_
    refine at_then ?_
    refine run_cond (b := (decide (0 < (x0.fTxs.length : Int)))) rfl (fun hb1123 => ?_) (fun hb1123 => ?_)
    · replace ho1122 := cond_t hb1123 ho1122
      obtain ⟨t1124, h1125, ho1122⟩ := bind_some ho1122
      refine run_region rfl ?_
      refine ops_ex rfl (guard_none rfl) rfl rfl (ex_fieldAddr (off' := 3) rfl rfl Tryd.underlying38 rfl tsz22 rfl) ?_
      refine ops_ex rfl (guard_none rfl) rfl rfl (ex_load1 rfl rfl Tryd.underlying22 rfl ((HM.box_at 0 rfl) 3 _ rfl)) ?_
      refine ops_does rfl (guard_none rfl) rfl rfl (does_callk rfl callok36 rfl (impl_joined.calls (x0 := x0.fTxs) (x1 := (⟨#[43]⟩ : ByteArray)) (HM.tab htab) (HM.rd hp0_0) h1125)) ?_
      rintro _ w1126 ⟨rfl, hn⟩
      replace HM : Mem w [] w1126 [box b1110 38 [.int .i64 x0.fPrev, .int .i64 x0.fHeight, .int .i64 x0.fMiner, p0_0]] := HM.call hn
      refine ops_ex rfl (guard_none rfl) rfl rfl (ex_assign rfl rfl) ?_
      refine ops_nil ?_
      exact at_mid (ρ' := [(1, .pointer (some ⟨b1110, 0, none⟩)), (3, .string t1124)]) ⟨_, (Option.some.inj ho1122), rfl, HM⟩ (Sub.cons rfl (Sub.cons rfl Sub.nil))
    · replace ho1122 := cond_f hb1123 ho1122
      refine run_skip ?_
      exact at_mid (ρ' := [(1, .pointer (some ⟨b1110, 0, none⟩)), (3, .string (⟨#[45]⟩ : ByteArray))]) ⟨_, (Option.some.inj ho1122), rfl, HM⟩ (Sub.cons rfl (Sub.cons rfl Sub.nil))
  · rintro _ w1127 ⟨a1120, rfl, rfl, HM⟩
    refine run_seq ?_
    obtain ⟨t1131, h1132, H⟩ := bind_some H
    obtain ⟨e1133, H⟩ := chk_some H
    obtain ⟨e1134, H⟩ := chk_some H
    obtain ⟨e1135, H⟩ := chk_some H
    refine run_region rfl ?_
    refine ops_ex rfl (guard_none rfl) rfl rfl (ex_fieldAddr (off' := 0) rfl rfl Tryd.underlying38 rfl tsz2 rfl) ?_
    refine ops_ex rfl (guard_none rfl) rfl rfl (ex_load1 rfl rfl Tryd.underlying2 rfl ((HM.box_at 0 rfl) 0 _ rfl)) ?_
    refine ops_ex rfl (guard_none rfl) rfl rfl (ex_fieldAddr (off' := 1) rfl rfl Tryd.underlying38 rfl tsz2 rfl) ?_
    refine ops_ex rfl (guard_none rfl) rfl rfl (ex_load1 rfl rfl Tryd.underlying2 rfl ((HM.box_at 0 rfl) 1 _ rfl)) ?_
    refine ops_ex rfl (guard_none rfl) rfl rfl (ex_fieldAddr (off' := 2) rfl rfl Tryd.underlying38 rfl tsz2 rfl) ?_
    refine ops_ex rfl (guard_none rfl) rfl rfl (ex_load1 rfl rfl Tryd.underlying2 rfl ((HM.box_at 0 rfl) 2 _ rfl)) ?_
    refine ops_does rfl (guard_none rfl) rfl rfl (does_lit (e := 2) (cs := [.int .i64 x0.fPrev, .int .i64 x0.fHeight, .int .i64 x0.fMiner]) (xs := ([x0.fPrev, x0.fHeight, x0.fMiner] : List Int)) kInt rfl rfl (fun _ => by kernel_rfl) rfl rfl (fun _ _ h => by have h' : _ = [] := h; subst h'; exact (Elems.cons (d := kInt) (f := []) ⟨rfl, rfl⟩ (Elems.cons (d := kInt) (f := []) ⟨rfl, rfl⟩ (Elems.cons (d := kInt) (f := []) ⟨rfl, rfl⟩ .nil)))) HM.emp) ?_
    rintro v1128 w1136 HM
    refine ops_does rfl (guard_none rfl) rfl rfl (does_callk rfl callok36 rfl (impl_joined.calls (x0 := ([x0.fPrev, x0.fHeight, x0.fMiner] : List Int)) (x1 := (⟨#[32]⟩ : ByteArray)) (HM.tab htab) (HM.own_rd 0 rfl) h1132)) ?_
    rintro _ w1137 ⟨rfl, hn⟩
    replace HM : Mem w [] w1137 [own kInt 2 v1128 ([x0.fPrev, x0.fHeight, x0.fMiner] : List Int), box b1110 38 [.int .i64 x0.fPrev, .int .i64 x0.fHeight, .int .i64 x0.fMiner, p0_0]] := HM.call hn
    refine ops_ex rfl (guard_none rfl) rfl rfl (ex_sadd rfl rfl rfl (leB_le e1133)) ?_
    refine ops_ex rfl (guard_none rfl) rfl rfl (ex_sadd rfl rfl rfl (leB_le e1134)) ?_
    refine ops_ex rfl (guard_none rfl) rfl rfl (ex_move rfl rfl) ?_
    refine ops_ex rfl (guard_none rfl) rfl rfl (ex_sadd rfl rfl rfl (leB_le e1135)) ?_
    refine ops_ex rfl (guard_none rfl) rfl rfl (ex_assign rfl rfl) ?_
    refine ops_nil ?_
    refine at_then ?_
    refine run_ret ?_
    replace HM := (HM.front 0 rfl rfl).drop
    replace HM := (HM.front 0 rfl rfl).drop
    have hR := Option.some.inj H
    subst hR
    exact at_ret1 rfl rfl ⟨_, rfl, rfl, HM⟩

def impl_BlockText.f (k : Nat) (x0 : Block) : Option TextResult := ((impl_BlockFault.f k x0).bind fun t1148 => (bif (t1148 != 0) then some (⟨t1148, (⟨#[]⟩ : ByteArray)⟩ : TextResult) else ((impl_blockText.f k x0).bind fun t1153 => some (⟨0, t1153⟩ : TextResult))))
theorem impl_BlockText.calls {k : Nat} {x0 : Block} {p0_0 : Value} {w : World} (htab : Tab w) (hp0_0 : RdS kInt w p0_0 x0.fTxs) {r : TextResult} (H : impl_BlockText.f k x0 = some r) :
    Calls Tryd.prog 14 ([.agg #[(.int .i64 x0.fPrev), (.int .i64 x0.fHeight), (.int .i64 x0.fMiner), p0_0]] : List Value).toArray w (fun e w_ => ∃ v, e = .returned v ∧ v = (.agg #[.int .i64 r.fCode, .string r.fText]) ∧ Mem w [] w_ []) := by
  have HM := Mem.start w
  refine calls_run (N := 13) Tryd.func14 rfl rfl rfl rfl ?_
  unfold impl_BlockText.f at H
  refine run_seq ?_
  refine run_region rfl ?_
  refine ops_does rfl (guard_none rfl) rfl rfl (does_box (cs := [.int .i64 x0.fPrev, .int .i64 x0.fHeight, .int .i64 x0.fMiner, p0_0]) rfl rfl rfl HM) ?_
  rintro _ w1146 ⟨b1140, rfl, HM⟩
  refine ops_does rfl (guard_none rfl) rfl rfl (does_alloc (cs := [.int .i64 0, .string (⟨#[]⟩ : ByteArray)]) rfl tz27 rfl HM) ?_
  rintro _ w1147 ⟨b1143, rfl, HM⟩
  refine ops_nil ?_
  refine at_then ?_
  refine run_seq ?_
  refine run_seq ?_
  obtain ⟨t1148, h1149, H⟩ := bind_some H
  refine run_region rfl ?_
  refine ops_ex rfl (guard_none rfl) rfl rfl (ex_loadN (cs := [(.int .i64 x0.fPrev), (.int .i64 x0.fHeight), (.int .i64 x0.fMiner), p0_0]) rfl rfl Tryd.underlying38 rfl tsz38 rfl ((HM.box_at 1 rfl).sub 0 4 rfl)) ?_
  refine ops_does rfl (guard_none rfl) rfl rfl (does_callk rfl callok25 rfl (impl_BlockFault.calls (x0 := x0) (HM.rd hp0_0) h1149)) ?_
  rintro _ w1150 ⟨rfl, hn⟩
  replace HM : Mem w [] w1150 [box b1143 27 [.int .i64 0, .string (⟨#[]⟩ : ByteArray)], box b1140 38 [.int .i64 x0.fPrev, .int .i64 x0.fHeight, .int .i64 x0.fMiner, p0_0]] := HM.call hn
  refine ops_ex rfl (guard_none rfl) rfl rfl (ex_assign rfl rfl) ?_
  refine ops_nil ?_
  refine at_then ?_
  refine run_seq ?_
  refine run_region rfl ?_
  refine ops_ex rfl (guard_none rfl) rfl rfl (ex_move rfl rfl) ?_
  refine ops_ex rfl (guard_none rfl) rfl rfl (ex_neq rfl rfl rfl) ?_
  refine ops_nil ?_
  refine at_then ?_
  refine run_cond (b := (t1148 != 0)) rfl (fun hb1151 => ?_) (fun hb1151 => ?_)
  · replace H := cond_t hb1151 H
    refine run_seq ?_
    refine run_region rfl ?_
    refine ops_ex rfl (guard_none rfl) rfl rfl (ex_move rfl rfl) ?_
    refine ops_ex rfl (guard_none rfl) rfl rfl (ex_build (cells := #[(.int .i64 t1148), (.string (⟨#[]⟩ : ByteArray))]) rfl rfl (by kernel_rfl)) ?_
    refine ops_doesS rfl (guard_none rfl) rfl (does_store (vs := [.int .i64 t1148, .string (⟨#[]⟩ : ByteArray)]) (cs' := [.int .i64 t1148, .string (⟨#[]⟩ : ByteArray)]) rfl rfl rfl rfl tsz27 (Ones.int (Ones.str Ones.nil)) rfl rfl HM) ?_
    rintro w1152 HM
    refine ops_nil ?_
    refine at_then ?_
    refine run_ret ?_
    refine at_then_ret ?_
    replace HM := (HM.front 1 rfl rfl).drop
    have hcb0 := HM.box_at 0 rfl
    replace HM := (HM.front 0 rfl rfl).drop
    have hR := Option.some.inj H
    subst hR
    exact at_retN rfl rfl Tryd.underlying27 rfl tsz27 rfl hcb0 ⟨_, rfl, rfl, HM⟩
  · replace H := cond_f hb1151 H
    refine run_skip ?_
    refine at_then ?_
    refine run_seq ?_
    obtain ⟨t1153, h1154, H⟩ := bind_some H
    refine run_region rfl ?_
    refine ops_ex rfl (guard_none rfl) rfl rfl (ex_loadN (cs := [(.int .i64 x0.fPrev), (.int .i64 x0.fHeight), (.int .i64 x0.fMiner), p0_0]) rfl rfl Tryd.underlying38 rfl tsz38 rfl ((HM.box_at 1 rfl).sub 0 4 rfl)) ?_
    refine ops_does rfl (guard_none rfl) rfl rfl (does_callk rfl callok26 rfl (impl_blockText.calls (x0 := x0) (HM.tab htab) (HM.rd hp0_0) h1154)) ?_
    rintro _ w1155 ⟨rfl, hn⟩
    replace HM : Mem w [] w1155 [box b1143 27 [.int .i64 0, .string (⟨#[]⟩ : ByteArray)], box b1140 38 [.int .i64 x0.fPrev, .int .i64 x0.fHeight, .int .i64 x0.fMiner, p0_0]] := HM.call hn
    refine ops_ex rfl (guard_none rfl) rfl rfl (ex_build (cells := #[(.int .i64 0), (.string t1153)]) rfl rfl (by kernel_rfl)) ?_
    refine ops_doesS rfl (guard_none rfl) rfl (does_store (vs := [.int .i64 0, .string t1153]) (cs' := [.int .i64 0, .string t1153]) rfl rfl rfl rfl tsz27 (Ones.int (Ones.str Ones.nil)) rfl rfl HM) ?_
    rintro w1156 HM
    refine ops_nil ?_
    refine at_then ?_
    refine run_ret ?_
    replace HM := (HM.front 1 rfl rfl).drop
    have hcb0 := HM.box_at 0 rfl
    replace HM := (HM.front 0 rfl rfl).drop
    have hR := Option.some.inj H
    subst hR
    exact at_retN rfl rfl Tryd.underlying27 rfl tsz27 rfl hcb0 ⟨_, rfl, rfl, HM⟩

def laws_eqTextResult.f (k : Nat) (x0 : TextResult) (x1 : TextResult) : Option Bool := (bif (x0.fCode != x1.fCode) then some false else (bif (!sEq x0.fText x1.fText) then some false else some true))
theorem laws_eqTextResult.calls {k : Nat} {x0 : TextResult} {x1 : TextResult}  {w : World}  {r : Bool} (H : laws_eqTextResult.f k x0 x1 = some r) :
    Calls Tryd.prog 9 ([.agg #[(.int .i64 x0.fCode), (.string x0.fText)], .agg #[(.int .i64 x1.fCode), (.string x1.fText)]] : List Value).toArray w (fun e w_ => ∃ v, e = .returned v ∧ v = (.bool r) ∧ Mem w [] w_ []) := by
  have HM := Mem.start w
  refine calls_run (N := 15) Tryd.func9 rfl rfl rfl rfl ?_
  unfold laws_eqTextResult.f at H
  refine run_seq ?_
  refine run_region rfl ?_
  refine ops_does rfl (guard_none rfl) rfl rfl (does_box (cs := [.int .i64 x0.fCode, .string x0.fText]) rfl rfl rfl HM) ?_
  rintro _ w1177 ⟨b1171, rfl, HM⟩
  refine ops_does rfl (guard_none rfl) rfl rfl (does_box (cs := [.int .i64 x1.fCode, .string x1.fText]) rfl rfl rfl HM) ?_
  rintro _ w1178 ⟨b1174, rfl, HM⟩
  refine ops_ex rfl (guard_none rfl) rfl rfl (ex_assign rfl rfl) ?_
  refine ops_nil ?_
  refine at_then ?_
  refine run_seq ?_
  refine run_seq ?_
  refine run_region rfl ?_
  refine ops_ex rfl (guard_none rfl) rfl rfl (ex_fieldAddr (off' := 0) rfl rfl Tryd.underlying27 rfl tsz2 rfl) ?_
  refine ops_ex rfl (guard_none rfl) rfl rfl (ex_load1 rfl rfl Tryd.underlying2 rfl ((HM.box_at 1 rfl) 0 _ rfl)) ?_
  refine ops_ex rfl (guard_none rfl) rfl rfl (ex_fieldAddr (off' := 0) rfl rfl Tryd.underlying27 rfl tsz2 rfl) ?_
  refine ops_ex rfl (guard_none rfl) rfl rfl (ex_load1 rfl rfl Tryd.underlying2 rfl ((HM.box_at 0 rfl) 0 _ rfl)) ?_
  refine ops_ex rfl (guard_none rfl) rfl rfl (ex_neq rfl rfl rfl) ?_
  refine ops_nil ?_
  refine at_then ?_
  refine run_cond (b := (x0.fCode != x1.fCode)) rfl (fun hb1180 => ?_) (fun hb1180 => ?_)
  · replace H := cond_t hb1180 H
    refine run_seq ?_
    refine run_region rfl ?_
    refine ops_ex rfl (guard_none rfl) rfl rfl (ex_assign rfl rfl) ?_
    refine ops_nil ?_
    refine at_then ?_
    refine run_ret ?_
    refine at_then_ret ?_
    replace HM := (HM.front 0 rfl rfl).drop
    replace HM := (HM.front 0 rfl rfl).drop
    have hR := Option.some.inj H
    subst hR
    exact at_ret1 rfl rfl ⟨_, rfl, rfl, HM⟩
  · replace H := cond_f hb1180 H
    refine run_skip ?_
    refine at_then ?_
    refine run_seq ?_
    refine run_seq ?_
    refine run_region rfl ?_
    refine ops_ex rfl (guard_none rfl) rfl rfl (ex_fieldAddr (off' := 1) rfl rfl Tryd.underlying27 rfl tsz9 rfl) ?_
    refine ops_ex rfl (guard_none rfl) rfl rfl (ex_load1 rfl rfl Tryd.underlying9 rfl ((HM.box_at 1 rfl) 1 _ rfl)) ?_
    refine ops_ex rfl (guard_none rfl) rfl rfl (ex_fieldAddr (off' := 1) rfl rfl Tryd.underlying27 rfl tsz9 rfl) ?_
    refine ops_ex rfl (guard_none rfl) rfl rfl (ex_load1 rfl rfl Tryd.underlying9 rfl ((HM.box_at 0 rfl) 1 _ rfl)) ?_
    refine ops_ex rfl (guard_none rfl) rfl rfl (ex_sneq rfl rfl rfl) ?_
    refine ops_nil ?_
    refine at_then ?_
    refine run_cond (b := (!sEq x0.fText x1.fText)) rfl (fun hb1181 => ?_) (fun hb1181 => ?_)
    · replace H := cond_t hb1181 H
      refine run_seq ?_
      refine run_region rfl ?_
      refine ops_ex rfl (guard_none rfl) rfl rfl (ex_assign rfl rfl) ?_
      refine ops_nil ?_
      refine at_then ?_
      refine run_ret ?_
      refine at_then_ret ?_
      replace HM := (HM.front 0 rfl rfl).drop
      replace HM := (HM.front 0 rfl rfl).drop
      have hR := Option.some.inj H
      subst hR
      exact at_ret1 rfl rfl ⟨_, rfl, rfl, HM⟩
    · replace H := cond_f hb1181 H
      refine run_skip ?_
      refine at_then ?_
      refine run_seq ?_
      refine run_region rfl ?_
      refine ops_ex rfl (guard_none rfl) rfl rfl (ex_assign rfl rfl) ?_
      refine ops_nil ?_
      refine at_then ?_
      refine run_ret ?_
      replace HM := (HM.front 0 rfl rfl).drop
      replace HM := (HM.front 0 rfl rfl).drop
      have hR := Option.some.inj H
      subst hR
      exact at_ret1 rfl rfl ⟨_, rfl, rfl, HM⟩

def laws_eqInt64S.l0 (x0 : List Int) (x1 : List Int) : Nat → Int → Option (Bool ⊕ Unit)
  | 0, _ => none
  | k + 1, a1256 => (bif (decide (a1256 < (x0.length : Int))) then (chk (idxOk a1256 x0.length) (chk (idxOk a1256 x1.length) (bif ((gt x0 a1256) != (gt x1 a1256)) then some (.inl false) else laws_eqInt64S.l0 x0 x1 k (wrap64 (a1256 + 1))))) else some (.inr ()))
theorem laws_eqInt64S.l0_z (x0 : List Int) (x1 : List Int) (a1256 : Int) : laws_eqInt64S.l0 x0 x1 0 a1256 = none := rfl
theorem laws_eqInt64S.l0_s (x0 : List Int) (x1 : List Int) (k : Nat) (a1256 : Int) : laws_eqInt64S.l0 x0 x1 (k + 1) a1256 = (bif (decide (a1256 < (x0.length : Int))) then (chk (idxOk a1256 x0.length) (chk (idxOk a1256 x1.length) (bif ((gt x0 a1256) != (gt x1 a1256)) then some (.inl false) else laws_eqInt64S.l0 x0 x1 k (wrap64 (a1256 + 1))))) else some (.inr ())) := rfl
def laws_eqInt64S.f (k : Nat) (x0 : List Int) (x1 : List Int) : Option Bool := (bif ((x0.length : Int) != (x1.length : Int)) then some false else ((laws_eqInt64S.l0 x0 x1 k 0).bind fun o1248 => thn o1248 (fun r => some r) (fun _ => some true)))
theorem laws_eqInt64S.calls {k : Nat} {x0 : List Int} {x1 : List Int} {p0 : Value} {p1 : Value} {w : World} (hp0 : RdS kInt w p0 x0) (hp1 : RdS kInt w p1 x1) {r : Bool} (H : laws_eqInt64S.f k x0 x1 = some r) :
    Calls Tryd.prog 22 ([p0, p1] : List Value).toArray w (fun e w_ => ∃ v, e = .returned v ∧ v = (.bool r) ∧ Mem w [] w_ []) := by
  have HM := Mem.start w
  refine calls_run (N := 26) Tryd.func22 rfl rfl rfl rfl ?_
  unfold laws_eqInt64S.f at H
  refine run_seq ?_
  refine run_region rfl ?_
  refine ops_ex rfl (guard_none rfl) rfl rfl (ex_assign rfl rfl) ?_
  refine ops_nil ?_
  refine at_then ?_
  refine run_seq ?_
  refine run_seq ?_
  refine run_region rfl ?_
  refine ops_ex rfl (guard_none rfl) rfl rfl (ex_move rfl rfl) ?_
  refine ops_ex rfl (guard_none rfl) rfl rfl (ex_len (d := kInt) (xs := x0) rfl rfl Tryd.underlying22 hp0) ?_
  refine ops_ex rfl (guard_none rfl) rfl rfl (ex_move rfl rfl) ?_
  refine ops_ex rfl (guard_none rfl) rfl rfl (ex_len (d := kInt) (xs := x1) rfl rfl Tryd.underlying22 hp1) ?_
  refine ops_ex rfl (guard_none rfl) rfl rfl (ex_neq rfl rfl rfl) ?_
  refine ops_nil ?_
  refine at_then ?_
  refine run_cond (b := ((x0.length : Int) != (x1.length : Int))) rfl (fun hb1228 => ?_) (fun hb1228 => ?_)
  · replace H := cond_t hb1228 H
    refine run_seq ?_
    refine run_region rfl ?_
    refine ops_ex rfl (guard_none rfl) rfl rfl (ex_assign rfl rfl) ?_
    refine ops_nil ?_
    refine at_then ?_
    refine run_ret ?_
    refine at_then_ret ?_
    have hR := Option.some.inj H
    subst hR
    exact at_ret1 rfl rfl ⟨_, rfl, rfl, HM⟩
  · replace H := cond_f hb1228 H
    refine run_skip ?_
    refine at_then ?_
    obtain ⟨o1248, ho1249, H⟩ := bind_some H
    refine run_mid (fun ρ_ w_ => Sum.inr () = o1248 ∧ ρ_ = [] ∧ Mem w [] w_ []) ?_ ?_
    · skip
      refine run_seq ?_
      refine run_region rfl ?_
      refine ops_ex rfl (guard_none rfl) rfl rfl (ex_assign rfl rfl) ?_
      refine ops_nil ?_
      refine at_then ?_
      refine run_block ?_
      refine run_loop (fun k_ ρ_ w_ => ∃ a1256 : Int, laws_eqInt64S.l0 x0 x1 k_ a1256 = some o1248 ∧ ρ_ = [(0, p0), (1, p1), (5, .int .i64 a1256)] ∧ Mem w [] w_ []) k (ρ1 := [(0, p0), (1, p1), (5, .int .i64 0)]) ⟨_, ho1249, rfl, HM⟩ (Sub.cons rfl (Sub.cons rfl (Sub.cons rfl Sub.nil))) ?_
      clear HM ho1249
      rintro k1263 _ w1264 ⟨a1256, ho1249, rfl, HM⟩
      obtain _ | k1263 := k1263
      · exact nomatch ((laws_eqInt64S.l0_z x0 x1 a1256).symm.trans ho1249)
      replace ho1249 := (laws_eqInt64S.l0_s x0 x1 k1263 a1256).symm.trans ho1249
      refine run_seq ?_
      refine run_seq ?_
      refine run_region rfl ?_
      refine ops_ex rfl (guard_none rfl) rfl rfl (ex_move rfl rfl) ?_
      refine ops_ex rfl (guard_none rfl) rfl rfl (ex_move rfl rfl) ?_
      refine ops_ex rfl (guard_none rfl) rfl rfl (ex_len (d := kInt) (xs := x0) rfl rfl Tryd.underlying22 hp0) ?_
      refine ops_ex rfl (guard_none rfl) rfl rfl (ex_lss rfl rfl rfl) ?_
      refine ops_nil ?_
      refine at_then ?_
      refine run_cond (b := (decide (a1256 < (x0.length : Int)))) rfl (fun hb1265 => ?_) (fun hb1265 => ?_)
      · replace ho1249 := cond_t hb1265 ho1249
        refine run_skip ?_
        refine at_then ?_
        refine run_seq ?_
        refine run_block ?_
        refine run_seq ?_
        obtain ⟨e1266, ho1249⟩ := chk_some ho1249
        obtain ⟨e1268, ho1249⟩ := chk_some ho1249
        refine run_drawf (fun w_ => Mem w [] w_ []) [(0, true), (1, true), (2, true), (3, true), (4, true), (5, true), (6, true), (7, true), (8, true)] mixed rfl rfl (by kernel_rfl) ?_
        replace HM := HM.grow (fr_drew _)
        have hS := Mem.suf (M := []) HM
        refine drwp_take rfl (guard_none rfl) rfl rfl (fun w_ hS_ => (ex_move rfl rfl)) hS ?_
        refine drwp_take rfl (guard_none rfl) rfl rfl (fun w_ hS_ => (ex_move rfl rfl)) hS ?_
        have hc1267 : CellsAt _ (sb p0) (so p0 + (a1256).toNat * 1) [(.int .i64 (gt x0 a1256))] := rd_plain hp0 e1266
        refine drwp_take rfl (guard_none rfl) rfl rfl (fun w_ hS_ => (ex_indexAddr (d := kInt) rfl rfl rfl Tryd.underlying22 tsz2 hp0 (idx_lo e1266) (idx_hi e1266))) hS ?_
        refine drwp_take rfl (guard_none rfl) rfl rfl (fun w_ hS_ => (ex_load1 rfl rfl Tryd.underlying2 rfl ((hS_.at_ hc1267) 0 _ rfl))) hS ?_
        refine drwp_take rfl (guard_none rfl) rfl rfl (fun w_ hS_ => (ex_move rfl rfl)) hS ?_
        refine drwp_take rfl (guard_none rfl) rfl rfl (fun w_ hS_ => (ex_move rfl rfl)) hS ?_
        have hc1269 : CellsAt _ (sb p1) (so p1 + (a1256).toNat * 1) [(.int .i64 (gt x1 a1256))] := rd_plain hp1 e1268
        refine drwp_take rfl (guard_none rfl) rfl rfl (fun w_ hS_ => (ex_indexAddr (d := kInt) rfl rfl rfl Tryd.underlying22 tsz2 hp1 (idx_lo e1268) (idx_hi e1268))) hS ?_
        refine drwp_take rfl (guard_none rfl) rfl rfl (fun w_ hS_ => (ex_load1 rfl rfl Tryd.underlying2 rfl ((hS_.at_ hc1269) 0 _ rfl))) hS ?_
        refine drwp_take rfl (guard_none rfl) rfl rfl (fun w_ hS_ => (ex_neq rfl rfl rfl)) hS ?_
        refine drwp_done ?_
        refine at_then ?_
        refine run_cond (b := ((gt x0 a1256) != (gt x1 a1256))) rfl (fun hb1270 => ?_) (fun hb1270 => ?_)
        · replace ho1249 := cond_t hb1270 ho1249
          refine run_seq ?_
          refine run_region rfl ?_
          refine ops_ex rfl (guard_none rfl) rfl rfl (ex_assign rfl rfl) ?_
          refine ops_nil ?_
          refine at_then ?_
          refine run_ret ?_
          refine at_block_ret ?_
          refine at_then_ret ?_
          refine at_then_ret ?_
          refine at_block_ret ?_
          refine at_then_ret ?_
          have hR := Option.some.inj ho1249
          subst hR
          have hT := thn_inl H
          have hR := Option.some.inj hT
          subst hR
          exact at_ret1 rfl rfl ⟨_, rfl, rfl, HM⟩
        · replace ho1249 := cond_f hb1270 ho1249
          refine run_skip ?_
          refine at_block ?_
          refine at_then ?_
          refine run_region rfl ?_
          refine ops_ex rfl (guard_none rfl) rfl rfl (ex_move rfl rfl) ?_
          refine ops_ex rfl (guard_none rfl) rfl rfl (ex_add rfl rfl rfl) ?_
          refine ops_ex rfl (guard_none rfl) rfl rfl (ex_assign rfl rfl) ?_
          refine ops_nil ?_
          exact at_again k1263 (ρ1 := [(0, p0), (1, p1), (5, .int .i64 (wrap64 (a1256 + 1)))]) (Nat.lt_succ_self _) ⟨_, ho1249, rfl, HM⟩ (Sub.cons rfl (Sub.cons rfl (Sub.cons rfl Sub.nil)))
      · replace ho1249 := cond_f hb1265 ho1249
        refine run_exit ?_
        refine at_then_exit ?_
        refine at_then_exit ?_
        refine at_block_exit ?_
        exact at_mid (ρ' := []) ⟨(Option.some.inj ho1249), rfl, HM⟩ Sub.nil
    · rintro _ w1271 ⟨rfl, rfl, HM⟩
      replace H := (thn_inr H)
      refine run_seq ?_
      refine run_region rfl ?_
      refine ops_ex rfl (guard_none rfl) rfl rfl (ex_assign rfl rfl) ?_
      refine ops_nil ?_
      refine at_then ?_
      refine run_ret ?_
      have hR := Option.some.inj H
      subst hR
      exact at_ret1 rfl rfl ⟨_, rfl, rfl, HM⟩

def laws_eqBlock.f (k : Nat) (x0 : Block) (x1 : Block) : Option Bool := (bif (x0.fPrev != x1.fPrev) then some false else (bif (x0.fHeight != x1.fHeight) then some false else (bif (x0.fMiner != x1.fMiner) then some false else ((laws_eqInt64S.f k x0.fTxs x1.fTxs).bind fun t1289 => (bif !t1289 then some false else some true)))))
theorem laws_eqBlock.calls {k : Nat} {x0 : Block} {x1 : Block} {p0_0 : Value} {p1_0 : Value} {w : World} (hp0_0 : RdS kInt w p0_0 x0.fTxs) (hp1_0 : RdS kInt w p1_0 x1.fTxs) {r : Bool} (H : laws_eqBlock.f k x0 x1 = some r) :
    Calls Tryd.prog 15 ([.agg #[(.int .i64 x0.fPrev), (.int .i64 x0.fHeight), (.int .i64 x0.fMiner), p0_0], .agg #[(.int .i64 x1.fPrev), (.int .i64 x1.fHeight), (.int .i64 x1.fMiner), p1_0]] : List Value).toArray w (fun e w_ => ∃ v, e = .returned v ∧ v = (.bool r) ∧ Mem w [] w_ []) := by
  have HM := Mem.start w
  refine calls_run (N := 26) Tryd.func15 rfl rfl rfl rfl ?_
  unfold laws_eqBlock.f at H
  refine run_seq ?_
  refine run_region rfl ?_
  refine ops_does rfl (guard_none rfl) rfl rfl (does_box (cs := [.int .i64 x0.fPrev, .int .i64 x0.fHeight, .int .i64 x0.fMiner, p0_0]) rfl rfl rfl HM) ?_
  rintro _ w1281 ⟨b1275, rfl, HM⟩
  refine ops_does rfl (guard_none rfl) rfl rfl (does_box (cs := [.int .i64 x1.fPrev, .int .i64 x1.fHeight, .int .i64 x1.fMiner, p1_0]) rfl rfl rfl HM) ?_
  rintro _ w1282 ⟨b1278, rfl, HM⟩
  refine ops_ex rfl (guard_none rfl) rfl rfl (ex_assign rfl rfl) ?_
  refine ops_nil ?_
  refine at_then ?_
  refine run_seq ?_
  refine run_seq ?_
  refine run_region rfl ?_
  refine ops_ex rfl (guard_none rfl) rfl rfl (ex_fieldAddr (off' := 0) rfl rfl Tryd.underlying38 rfl tsz2 rfl) ?_
  refine ops_ex rfl (guard_none rfl) rfl rfl (ex_load1 rfl rfl Tryd.underlying2 rfl ((HM.box_at 1 rfl) 0 _ rfl)) ?_
  refine ops_ex rfl (guard_none rfl) rfl rfl (ex_fieldAddr (off' := 0) rfl rfl Tryd.underlying38 rfl tsz2 rfl) ?_
  refine ops_ex rfl (guard_none rfl) rfl rfl (ex_load1 rfl rfl Tryd.underlying2 rfl ((HM.box_at 0 rfl) 0 _ rfl)) ?_
  refine ops_ex rfl (guard_none rfl) rfl rfl (ex_neq rfl rfl rfl) ?_
  refine ops_nil ?_
  refine at_then ?_
  refine run_cond (b := (x0.fPrev != x1.fPrev)) rfl (fun hb1284 => ?_) (fun hb1284 => ?_)
  · replace H := cond_t hb1284 H
    refine run_seq ?_
    refine run_region rfl ?_
    refine ops_ex rfl (guard_none rfl) rfl rfl (ex_assign rfl rfl) ?_
    refine ops_nil ?_
    refine at_then ?_
    refine run_ret ?_
    refine at_then_ret ?_
    replace HM := (HM.front 0 rfl rfl).drop
    replace HM := (HM.front 0 rfl rfl).drop
    have hR := Option.some.inj H
    subst hR
    exact at_ret1 rfl rfl ⟨_, rfl, rfl, HM⟩
  · replace H := cond_f hb1284 H
    refine run_skip ?_
    refine at_then ?_
    refine run_seq ?_
    refine run_seq ?_
    refine run_region rfl ?_
    refine ops_ex rfl (guard_none rfl) rfl rfl (ex_fieldAddr (off' := 1) rfl rfl Tryd.underlying38 rfl tsz2 rfl) ?_
    refine ops_ex rfl (guard_none rfl) rfl rfl (ex_load1 rfl rfl Tryd.underlying2 rfl ((HM.box_at 1 rfl) 1 _ rfl)) ?_
    refine ops_ex rfl (guard_none rfl) rfl rfl (ex_fieldAddr (off' := 1) rfl rfl Tryd.underlying38 rfl tsz2 rfl) ?_
    refine ops_ex rfl (guard_none rfl) rfl rfl (ex_load1 rfl rfl Tryd.underlying2 rfl ((HM.box_at 0 rfl) 1 _ rfl)) ?_
    refine ops_ex rfl (guard_none rfl) rfl rfl (ex_neq rfl rfl rfl) ?_
    refine ops_nil ?_
    refine at_then ?_
    refine run_cond (b := (x0.fHeight != x1.fHeight)) rfl (fun hb1286 => ?_) (fun hb1286 => ?_)
    · replace H := cond_t hb1286 H
      refine run_seq ?_
      refine run_region rfl ?_
      refine ops_ex rfl (guard_none rfl) rfl rfl (ex_assign rfl rfl) ?_
      refine ops_nil ?_
      refine at_then ?_
      refine run_ret ?_
      refine at_then_ret ?_
      replace HM := (HM.front 0 rfl rfl).drop
      replace HM := (HM.front 0 rfl rfl).drop
      have hR := Option.some.inj H
      subst hR
      exact at_ret1 rfl rfl ⟨_, rfl, rfl, HM⟩
    · replace H := cond_f hb1286 H
      refine run_skip ?_
      refine at_then ?_
      refine run_seq ?_
      refine run_seq ?_
      refine run_region rfl ?_
      refine ops_ex rfl (guard_none rfl) rfl rfl (ex_fieldAddr (off' := 2) rfl rfl Tryd.underlying38 rfl tsz2 rfl) ?_
      refine ops_ex rfl (guard_none rfl) rfl rfl (ex_load1 rfl rfl Tryd.underlying2 rfl ((HM.box_at 1 rfl) 2 _ rfl)) ?_
      refine ops_ex rfl (guard_none rfl) rfl rfl (ex_fieldAddr (off' := 2) rfl rfl Tryd.underlying38 rfl tsz2 rfl) ?_
      refine ops_ex rfl (guard_none rfl) rfl rfl (ex_load1 rfl rfl Tryd.underlying2 rfl ((HM.box_at 0 rfl) 2 _ rfl)) ?_
      refine ops_ex rfl (guard_none rfl) rfl rfl (ex_neq rfl rfl rfl) ?_
      refine ops_nil ?_
      refine at_then ?_
      refine run_cond (b := (x0.fMiner != x1.fMiner)) rfl (fun hb1288 => ?_) (fun hb1288 => ?_)
      · replace H := cond_t hb1288 H
        refine run_seq ?_
        refine run_region rfl ?_
        refine ops_ex rfl (guard_none rfl) rfl rfl (ex_assign rfl rfl) ?_
        refine ops_nil ?_
        refine at_then ?_
        refine run_ret ?_
        refine at_then_ret ?_
        replace HM := (HM.front 0 rfl rfl).drop
        replace HM := (HM.front 0 rfl rfl).drop
        have hR := Option.some.inj H
        subst hR
        exact at_ret1 rfl rfl ⟨_, rfl, rfl, HM⟩
      · replace H := cond_f hb1288 H
        refine run_skip ?_
        refine at_then ?_
        refine run_seq ?_
        refine run_seq ?_
        obtain ⟨t1289, h1290, H⟩ := bind_some H
        refine run_region rfl ?_
        refine ops_ex rfl (guard_none rfl) rfl rfl (ex_fieldAddr (off' := 3) rfl rfl Tryd.underlying38 rfl tsz22 rfl) ?_
        refine ops_ex rfl (guard_none rfl) rfl rfl (ex_load1 rfl rfl Tryd.underlying22 rfl ((HM.box_at 1 rfl) 3 _ rfl)) ?_
        refine ops_ex rfl (guard_none rfl) rfl rfl (ex_fieldAddr (off' := 3) rfl rfl Tryd.underlying38 rfl tsz22 rfl) ?_
        refine ops_ex rfl (guard_none rfl) rfl rfl (ex_load1 rfl rfl Tryd.underlying22 rfl ((HM.box_at 0 rfl) 3 _ rfl)) ?_
        refine ops_does rfl (guard_none rfl) rfl rfl (does_callk rfl callok22 rfl (laws_eqInt64S.calls (x0 := x0.fTxs) (x1 := x1.fTxs) (HM.rd hp0_0) (HM.rd hp1_0) h1290)) ?_
        rintro _ w1291 ⟨rfl, hn⟩
        replace HM : Mem w [] w1291 [box b1278 38 [.int .i64 x1.fPrev, .int .i64 x1.fHeight, .int .i64 x1.fMiner, p1_0], box b1275 38 [.int .i64 x0.fPrev, .int .i64 x0.fHeight, .int .i64 x0.fMiner, p0_0]] := HM.call hn
        refine ops_ex rfl (guard_none rfl) rfl rfl (ex_not rfl rfl) ?_
        refine ops_nil ?_
        refine at_then ?_
        refine run_cond (b := !t1289) rfl (fun hb1292 => ?_) (fun hb1292 => ?_)
        · replace H := cond_t hb1292 H
          refine run_seq ?_
          refine run_region rfl ?_
          refine ops_ex rfl (guard_none rfl) rfl rfl (ex_assign rfl rfl) ?_
          refine ops_nil ?_
          refine at_then ?_
          refine run_ret ?_
          refine at_then_ret ?_
          replace HM := (HM.front 0 rfl rfl).drop
          replace HM := (HM.front 0 rfl rfl).drop
          have hR := Option.some.inj H
          subst hR
          exact at_ret1 rfl rfl ⟨_, rfl, rfl, HM⟩
        · replace H := cond_f hb1292 H
          refine run_skip ?_
          refine at_then ?_
          refine run_seq ?_
          refine run_region rfl ?_
          refine ops_ex rfl (guard_none rfl) rfl rfl (ex_assign rfl rfl) ?_
          refine ops_nil ?_
          refine at_then ?_
          refine run_ret ?_
          replace HM := (HM.front 0 rfl rfl).drop
          replace HM := (HM.front 0 rfl rfl).drop
          have hR := Option.some.inj H
          subst hR
          exact at_ret1 rfl rfl ⟨_, rfl, rfl, HM⟩

def laws_FnExactBlockText.f (k : Nat) (x0 : Block) : Option Bool := ((laws_szBlock.f k x0 1048576).bind fun t1300 => (bif (decide (t1300 < 0)) then some true else ((laws_toBlock.f k x0).bind fun t1305 => ((spec_BlockText.f k t1305).bind fun t1309 => ((laws_toBlock.f k x0).bind fun t1318 => ((impl_BlockText.f k t1318).bind fun t1328 => ((laws_eqTextResult.f k t1328 t1309).bind fun t1339 => (bif !t1339 then some false else ((laws_toBlock.f k x0).bind fun t1343 => ((laws_eqBlock.f k t1318 t1343).bind fun t1347 => (bif !t1347 then some false else some true)))))))))))
theorem laws_FnExactBlockText.calls {k : Nat} {x0 : Block} {p0_0 : Value} {w : World} (htab : Tab w) (hp0_0 : RdS kInt w p0_0 x0.fTxs) {r : Bool} (H : laws_FnExactBlockText.f k x0 = some r) :
    Calls Tryd.prog 4 ([.agg #[(.int .i64 x0.fPrev), (.int .i64 x0.fHeight), (.int .i64 x0.fMiner), p0_0]] : List Value).toArray w (fun e w_ => ∃ v, e = .returned v ∧ v = (.bool r) ∧ Mem w [] w_ []) := by
  have HM := Mem.start w
  refine calls_run (N := 28) Tryd.func4 rfl rfl rfl rfl ?_
  unfold laws_FnExactBlockText.f at H
  refine run_seq ?_
  refine run_region rfl ?_
  refine ops_does rfl (guard_none rfl) rfl rfl (does_box (cs := [.int .i64 x0.fPrev, .int .i64 x0.fHeight, .int .i64 x0.fMiner, p0_0]) rfl rfl rfl HM) ?_
  rintro _ w1299 ⟨b1296, rfl, HM⟩
  refine ops_ex rfl (guard_none rfl) rfl rfl (ex_assign rfl rfl) ?_
  refine ops_nil ?_
  refine at_then ?_
  refine run_seq ?_
  refine run_region rfl ?_
  refine ops_ex rfl (guard_none rfl) rfl rfl (ex_assign rfl rfl) ?_
  refine ops_nil ?_
  refine at_then ?_
  refine run_seq ?_
  obtain ⟨t1300, h1301, H⟩ := bind_some H
  refine run_region rfl ?_
  refine ops_ex rfl (guard_none rfl) rfl rfl (ex_loadN (cs := [(.int .i64 x0.fPrev), (.int .i64 x0.fHeight), (.int .i64 x0.fMiner), p0_0]) rfl rfl Tryd.underlying35 rfl tsz35 rfl ((HM.box_at 0 rfl).sub 0 4 rfl)) ?_
  refine ops_ex rfl (guard_none rfl) rfl rfl (ex_move rfl rfl) ?_
  refine ops_does rfl (guard_none rfl) rfl rfl (does_callk rfl callok11 rfl (laws_szBlock.calls (x0 := x0) (x1 := 1048576) (HM.rd hp0_0) h1301)) ?_
  rintro _ w1302 ⟨rfl, hn⟩
  replace HM : Mem w [] w1302 [box b1296 35 [.int .i64 x0.fPrev, .int .i64 x0.fHeight, .int .i64 x0.fMiner, p0_0]] := HM.call hn
  refine ops_ex rfl (guard_none rfl) rfl rfl (ex_assign rfl rfl) ?_
  refine ops_nil ?_
  refine at_then ?_
  refine run_seq ?_
  refine run_seq ?_
  refine run_region rfl ?_
  refine ops_ex rfl (guard_none rfl) rfl rfl (ex_move rfl rfl) ?_
  refine ops_ex rfl (guard_none rfl) rfl rfl (ex_lss rfl rfl rfl) ?_
  refine ops_nil ?_
  refine at_then ?_
  refine run_cond (b := (decide (t1300 < 0))) rfl (fun hb1304 => ?_) (fun hb1304 => ?_)
  · replace H := cond_t hb1304 H
    refine run_seq ?_
    refine run_region rfl ?_
    refine ops_ex rfl (guard_none rfl) rfl rfl (ex_assign rfl rfl) ?_
    refine ops_nil ?_
    refine at_then ?_
    refine run_ret ?_
    refine at_then_ret ?_
    replace HM := (HM.front 0 rfl rfl).drop
    have hR := Option.some.inj H
    subst hR
    exact at_ret1 rfl rfl ⟨_, rfl, rfl, HM⟩
  · replace H := cond_f hb1304 H
    refine run_skip ?_
    refine at_then ?_
    refine run_seq ?_
    obtain ⟨t1305, h1306, H⟩ := bind_some H
    obtain ⟨t1309, h1310, H⟩ := bind_some H
    refine run_region rfl ?_
    refine ops_ex rfl (guard_none rfl) rfl rfl (ex_loadN (cs := [(.int .i64 x0.fPrev), (.int .i64 x0.fHeight), (.int .i64 x0.fMiner), p0_0]) rfl rfl Tryd.underlying35 rfl tsz35 rfl ((HM.box_at 0 rfl).sub 0 4 rfl)) ?_
    refine ops_does rfl (guard_none rfl) rfl rfl (does_callk rfl callok13 rfl (laws_toBlock.calls (x0 := x0) (HM.rd hp0_0) h1306)) ?_
    rintro _ w1314 ⟨u1307, rfl, hn⟩
    replace HM : Mem w [] w1314 [own kInt 2 u1307 t1305.fTxs, box b1296 35 [.int .i64 x0.fPrev, .int .i64 x0.fHeight, .int .i64 x0.fMiner, p0_0]] := HM.call hn
    refine ops_does rfl (guard_none rfl) rfl rfl (does_callk rfl callok12 rfl (spec_BlockText.calls (x0 := t1305) (HM.own_rd 0 rfl) h1310)) ?_
    rintro _ w1315 ⟨rfl, hn⟩
    replace HM : Mem w [] w1315 [own kInt 2 u1307 t1305.fTxs, box b1296 35 [.int .i64 x0.fPrev, .int .i64 x0.fHeight, .int .i64 x0.fMiner, p0_0]] := HM.call hn
    refine ops_does rfl (guard_none rfl) rfl rfl (does_alloc (cs := [.int .i64 0, .string (⟨#[]⟩ : ByteArray)]) rfl tz27 rfl HM) ?_
    rintro _ w1316 ⟨b1311, rfl, HM⟩
    refine ops_doesS rfl (guard_none rfl) rfl (does_store (vs := [.int .i64 t1309.fCode, .string t1309.fText]) (cs' := [.int .i64 t1309.fCode, .string t1309.fText]) rfl rfl rfl rfl tsz27 (Ones.int (Ones.str Ones.nil)) rfl rfl HM) ?_
    rintro w1317 HM
    refine ops_nil ?_
    refine at_then ?_
    refine run_seq ?_
    obtain ⟨t1318, h1319, H⟩ := bind_some H
    refine run_region rfl ?_
    refine ops_ex rfl (guard_none rfl) rfl rfl (ex_loadN (cs := [(.int .i64 x0.fPrev), (.int .i64 x0.fHeight), (.int .i64 x0.fMiner), p0_0]) rfl rfl Tryd.underlying35 rfl tsz35 rfl ((HM.box_at 2 rfl).sub 0 4 rfl)) ?_
    refine ops_does rfl (guard_none rfl) rfl rfl (does_callk rfl callok13 rfl (laws_toBlock.calls (x0 := x0) (HM.rd hp0_0) h1319)) ?_
    rintro _ w1325 ⟨u1320, rfl, hn⟩
    replace HM : Mem w [] w1325 [own kInt 2 u1320 t1318.fTxs, box b1311 27 [.int .i64 t1309.fCode, .string t1309.fText], own kInt 2 u1307 t1305.fTxs, box b1296 35 [.int .i64 x0.fPrev, .int .i64 x0.fHeight, .int .i64 x0.fMiner, p0_0]] := HM.call hn
    refine ops_does rfl (guard_none rfl) rfl rfl (does_alloc (cs := [.int .i64 0, .int .i64 0, .int .i64 0, .slice none 0 0]) rfl tz38 rfl HM) ?_
    rintro _ w1326 ⟨b1322, rfl, HM⟩
    refine ops_doesS rfl (guard_none rfl) rfl (does_store (vs := [.int .i64 t1318.fPrev, .int .i64 t1318.fHeight, .int .i64 t1318.fMiner, u1320]) (cs' := [.int .i64 t1318.fPrev, .int .i64 t1318.fHeight, .int .i64 t1318.fMiner, u1320]) rfl rfl rfl rfl tsz38 (Ones.int (Ones.int (Ones.int (Ones.rd (HM.own_rd 1 rfl) Ones.nil)))) rfl rfl HM) ?_
    rintro w1327 HM
    refine ops_nil ?_
    refine at_then ?_
    refine run_seq ?_
    obtain ⟨t1328, h1329, H⟩ := bind_some H
    refine run_region rfl ?_
    refine ops_ex rfl (guard_none rfl) rfl rfl (ex_loadN (cs := [(.int .i64 t1318.fPrev), (.int .i64 t1318.fHeight), (.int .i64 t1318.fMiner), u1320]) rfl rfl Tryd.underlying38 rfl tsz38 rfl ((HM.box_at 0 rfl).sub 0 4 rfl)) ?_
    refine ops_does rfl (guard_none rfl) rfl rfl (does_callk rfl callok14 rfl (impl_BlockText.calls (x0 := t1318) (HM.tab htab) (HM.own_rd 1 rfl) h1329)) ?_
    rintro _ w1333 ⟨rfl, hn⟩
    replace HM : Mem w [] w1333 [box b1322 38 [.int .i64 t1318.fPrev, .int .i64 t1318.fHeight, .int .i64 t1318.fMiner, u1320], own kInt 2 u1320 t1318.fTxs, box b1311 27 [.int .i64 t1309.fCode, .string t1309.fText], own kInt 2 u1307 t1305.fTxs, box b1296 35 [.int .i64 x0.fPrev, .int .i64 x0.fHeight, .int .i64 x0.fMiner, p0_0]] := HM.call hn
    refine ops_does rfl (guard_none rfl) rfl rfl (does_alloc (cs := [.int .i64 0, .string (⟨#[]⟩ : ByteArray)]) rfl tz27 rfl HM) ?_
    rintro _ w1334 ⟨b1330, rfl, HM⟩
    refine ops_doesS rfl (guard_none rfl) rfl (does_store (vs := [.int .i64 t1328.fCode, .string t1328.fText]) (cs' := [.int .i64 t1328.fCode, .string t1328.fText]) rfl rfl rfl rfl tsz27 (Ones.int (Ones.str Ones.nil)) rfl rfl HM) ?_
    rintro w1335 HM
    refine ops_nil ?_
    refine at_then ?_
    refine run_seq ?_
    refine run_seq ?_
    obtain ⟨t1339, h1340, H⟩ := bind_some H
    refine run_region rfl ?_
    refine ops_ex rfl (guard_none rfl) rfl rfl (ex_loadN (cs := [(.int .i64 t1328.fCode), (.string t1328.fText)]) rfl rfl Tryd.underlying27 rfl tsz27 rfl ((HM.box_at 0 rfl).sub 0 2 rfl)) ?_
    refine ops_ex rfl (guard_none rfl) rfl rfl (ex_loadN (cs := [(.int .i64 t1309.fCode), (.string t1309.fText)]) rfl rfl Tryd.underlying27 rfl tsz27 rfl ((HM.box_at 3 rfl).sub 0 2 rfl)) ?_
    refine ops_does rfl (guard_none rfl) rfl rfl (does_callk rfl callok9 rfl (laws_eqTextResult.calls (x0 := t1328) (x1 := t1309) h1340)) ?_
    rintro _ w1341 ⟨rfl, hn⟩
    replace HM : Mem w [] w1341 [box b1330 27 [.int .i64 t1328.fCode, .string t1328.fText], box b1322 38 [.int .i64 t1318.fPrev, .int .i64 t1318.fHeight, .int .i64 t1318.fMiner, u1320], own kInt 2 u1320 t1318.fTxs, box b1311 27 [.int .i64 t1309.fCode, .string t1309.fText], own kInt 2 u1307 t1305.fTxs, box b1296 35 [.int .i64 x0.fPrev, .int .i64 x0.fHeight, .int .i64 x0.fMiner, p0_0]] := HM.call hn
    refine ops_ex rfl (guard_none rfl) rfl rfl (ex_not rfl rfl) ?_
    refine ops_nil ?_
    refine at_then ?_
    refine run_cond (b := !t1339) rfl (fun hb1342 => ?_) (fun hb1342 => ?_)
    · replace H := cond_t hb1342 H
      refine run_seq ?_
      refine run_region rfl ?_
      refine ops_ex rfl (guard_none rfl) rfl rfl (ex_assign rfl rfl) ?_
      refine ops_nil ?_
      refine at_then ?_
      refine run_ret ?_
      refine at_then_ret ?_
      replace HM := (HM.front 0 rfl rfl).drop
      replace HM := (HM.front 0 rfl rfl).drop
      replace HM := (HM.front 0 rfl rfl).drop
      replace HM := (HM.front 0 rfl rfl).drop
      replace HM := (HM.front 0 rfl rfl).drop
      replace HM := (HM.front 0 rfl rfl).drop
      have hR := Option.some.inj H
      subst hR
      exact at_ret1 rfl rfl ⟨_, rfl, rfl, HM⟩
    · replace H := cond_f hb1342 H
      refine run_skip ?_
      refine at_then ?_
      refine run_seq ?_
      refine run_seq ?_
      obtain ⟨t1343, h1344, H⟩ := bind_some H
      obtain ⟨t1347, h1348, H⟩ := bind_some H
      refine run_drawf (fun w_ => Mem w [] w_ [box b1330 27 [.int .i64 t1328.fCode, .string t1328.fText], box b1322 38 [.int .i64 t1318.fPrev, .int .i64 t1318.fHeight, .int .i64 t1318.fMiner, u1320], own kInt 2 u1320 t1318.fTxs, box b1311 27 [.int .i64 t1309.fCode, .string t1309.fText], own kInt 2 u1307 t1305.fTxs, box b1296 35 [.int .i64 x0.fPrev, .int .i64 x0.fHeight, .int .i64 x0.fMiner, p0_0]]) [(0, true), (1, true), (2, false), (3, false), (4, true)] mixed rfl rfl (by kernel_rfl) ?_
      replace HM := HM.grow (fr_drew _)
      have hS := Mem.suf (M := []) HM
      refine drwp_take rfl (guard_none rfl) rfl rfl (fun w_ hS_ => (ex_loadN (cs := [(.int .i64 t1318.fPrev), (.int .i64 t1318.fHeight), (.int .i64 t1318.fMiner), u1320]) rfl rfl Tryd.underlying38 rfl tsz38 rfl ((hS_.box_at 1 rfl).sub 0 4 rfl))) hS ?_
      refine drwp_take rfl (guard_none rfl) rfl rfl (fun w_ hS_ => (ex_loadN (cs := [(.int .i64 x0.fPrev), (.int .i64 x0.fHeight), (.int .i64 x0.fMiner), p0_0]) rfl rfl Tryd.underlying35 rfl tsz35 rfl ((hS_.box_at 5 rfl).sub 0 4 rfl))) hS ?_
      refine drwp_one rfl (guard_none rfl) rfl rfl (does_callk rfl callok13 rfl (laws_toBlock.calls (x0 := x0) (HM.rd hp0_0) h1344)) ?_
      rintro _ w1349 ⟨u1345, rfl, hn⟩
      replace HM : Mem w [] w1349 [own kInt 2 u1345 t1343.fTxs, box b1330 27 [.int .i64 t1328.fCode, .string t1328.fText], box b1322 38 [.int .i64 t1318.fPrev, .int .i64 t1318.fHeight, .int .i64 t1318.fMiner, u1320], own kInt 2 u1320 t1318.fTxs, box b1311 27 [.int .i64 t1309.fCode, .string t1309.fText], own kInt 2 u1307 t1305.fTxs, box b1296 35 [.int .i64 x0.fPrev, .int .i64 x0.fHeight, .int .i64 x0.fMiner, p0_0]] := HM.call hn
      refine ⟨Mem.suf (M := [own kInt 2 u1345 t1343.fTxs]) HM, ?_⟩
      have hS := Mem.suf (M := [own kInt 2 u1345 t1343.fTxs]) HM
      refine drwp_one rfl (guard_none rfl) rfl rfl (does_callk rfl callok15 rfl (laws_eqBlock.calls (x0 := t1318) (x1 := t1343) (HM.own_rd 3 rfl) (HM.own_rd 0 rfl) h1348)) ?_
      rintro _ w1350 ⟨rfl, hn⟩
      replace HM : Mem w [] w1350 [own kInt 2 u1345 t1343.fTxs, box b1330 27 [.int .i64 t1328.fCode, .string t1328.fText], box b1322 38 [.int .i64 t1318.fPrev, .int .i64 t1318.fHeight, .int .i64 t1318.fMiner, u1320], own kInt 2 u1320 t1318.fTxs, box b1311 27 [.int .i64 t1309.fCode, .string t1309.fText], own kInt 2 u1307 t1305.fTxs, box b1296 35 [.int .i64 x0.fPrev, .int .i64 x0.fHeight, .int .i64 x0.fMiner, p0_0]] := HM.call hn
      refine ⟨Mem.suf (M := [own kInt 2 u1345 t1343.fTxs]) HM, ?_⟩
      have hS := Mem.suf (M := [own kInt 2 u1345 t1343.fTxs]) HM
      refine drwp_take rfl (guard_none rfl) rfl rfl (fun w_ hS_ => (ex_not rfl rfl)) hS ?_
      refine drwp_done ?_
      refine at_then ?_
      refine run_cond (b := !t1347) rfl (fun hb1351 => ?_) (fun hb1351 => ?_)
      · replace H := cond_t hb1351 H
        refine run_seq ?_
        refine run_region rfl ?_
        refine ops_ex rfl (guard_none rfl) rfl rfl (ex_assign rfl rfl) ?_
        refine ops_nil ?_
        refine at_then ?_
        refine run_ret ?_
        refine at_then_ret ?_
        replace HM := (HM.front 0 rfl rfl).drop
        replace HM := (HM.front 0 rfl rfl).drop
        replace HM := (HM.front 0 rfl rfl).drop
        replace HM := (HM.front 0 rfl rfl).drop
        replace HM := (HM.front 0 rfl rfl).drop
        replace HM := (HM.front 0 rfl rfl).drop
        replace HM := (HM.front 0 rfl rfl).drop
        have hR := Option.some.inj H
        subst hR
        exact at_ret1 rfl rfl ⟨_, rfl, rfl, HM⟩
      · replace H := cond_f hb1351 H
        refine run_skip ?_
        refine at_then ?_
        refine run_seq ?_
        refine run_region rfl ?_
        refine ops_ex rfl (guard_none rfl) rfl rfl (ex_assign rfl rfl) ?_
        refine ops_nil ?_
        refine at_then ?_
        refine run_ret ?_
        replace HM := (HM.front 0 rfl rfl).drop
        replace HM := (HM.front 0 rfl rfl).drop
        replace HM := (HM.front 0 rfl rfl).drop
        replace HM := (HM.front 0 rfl rfl).drop
        replace HM := (HM.front 0 rfl rfl).drop
        replace HM := (HM.front 0 rfl rfl).drop
        replace HM := (HM.front 0 rfl rfl).drop
        have hR := Option.some.inj H
        subst hR
        exact at_ret1 rfl rfl ⟨_, rfl, rfl, HM⟩
end Go.Proofs.YtdhkcglfeiapoaaDoor.Zk
