/- What functions of the program compute, each as a plain function, and that they do. Conditions: as each theorem states them. -/
import Derived.Test.YtdhkcglfeiapoaaDoorBlockTextZkF0
namespace Go.Proofs.YtdhkcglfeiapoaaDoor.Zk
open Go Go.RowKit Go.IntWalk Go.Proofs
set_option linter.unusedVariables false
set_option linter.unusedSimpArgs false
set_option maxRecDepth 100000
set_option maxHeartbeats 4000000
def spec_l7Text.l0 (x0 : Block) : Nat → ByteArray → Int → Option ByteArray
  | 0, _, _ => none
  | k + 1, a602, a603 => (bif (decide (a603 < (x0.fTxs.length : Int))) then ((bif (a603 == 0) then some (⟨#[32]⟩ : ByteArray) else some (⟨#[43]⟩ : ByteArray)).bind (fun a621 => (chk (leB (a602.size + a621.size) 9223372036854775807) (chk (idxOk a603 x0.fTxs.length) ((spec_l2Digits.f k (gt x0.fTxs a603)).bind fun t629 => (chk (leB ((a602 ++ a621).size + t629.size) 9223372036854775807) (spec_l7Text.l0 x0 k ((a602 ++ a621) ++ t629) (wrap64 (a603 + 1))))))))) else some a602)
theorem spec_l7Text.l0_z (x0 : Block) (a602 : ByteArray) (a603 : Int) : spec_l7Text.l0 x0 0 a602 a603 = none := rfl
theorem spec_l7Text.l0_s (x0 : Block) (k : Nat) (a602 : ByteArray) (a603 : Int) : spec_l7Text.l0 x0 (k + 1) a602 a603 = (bif (decide (a603 < (x0.fTxs.length : Int))) then ((bif (a603 == 0) then some (⟨#[32]⟩ : ByteArray) else some (⟨#[43]⟩ : ByteArray)).bind (fun a621 => (chk (leB (a602.size + a621.size) 9223372036854775807) (chk (idxOk a603 x0.fTxs.length) ((spec_l2Digits.f k (gt x0.fTxs a603)).bind fun t629 => (chk (leB ((a602 ++ a621).size + t629.size) 9223372036854775807) (spec_l7Text.l0 x0 k ((a602 ++ a621) ++ t629) (wrap64 (a603 + 1))))))))) else some a602) := rfl
def spec_l7Text.f (k : Nat) (x0 : Block) : Option ByteArray := ((spec_l2Digits.f k x0.fPrev).bind fun t531 => (chk (leB ((⟨#[98, 108, 111, 99, 107, 32]⟩ : ByteArray).size + t531.size) 9223372036854775807) (chk (leB (((⟨#[98, 108, 111, 99, 107, 32]⟩ : ByteArray) ++ t531).size + (⟨#[32]⟩ : ByteArray).size) 9223372036854775807) ((spec_l2Digits.f k x0.fHeight).bind fun t535 => (chk (leB ((((⟨#[98, 108, 111, 99, 107, 32]⟩ : ByteArray) ++ t531) ++ (⟨#[32]⟩ : ByteArray)).size + t535.size) 9223372036854775807) (chk (leB (((((⟨#[98, 108, 111, 99, 107, 32]⟩ : ByteArray) ++ t531) ++ (⟨#[32]⟩ : ByteArray)) ++ t535).size + (⟨#[32]⟩ : ByteArray).size) 9223372036854775807) ((spec_l2Digits.f k x0.fMiner).bind fun t539 => (chk (leB ((((((⟨#[98, 108, 111, 99, 107, 32]⟩ : ByteArray) ++ t531) ++ (⟨#[32]⟩ : ByteArray)) ++ t535) ++ (⟨#[32]⟩ : ByteArray)).size + t539.size) 9223372036854775807) (bif ((x0.fTxs.length : Int) == 0) then (chk (leB (((((((⟨#[98, 108, 111, 99, 107, 32]⟩ : ByteArray) ++ t531) ++ (⟨#[32]⟩ : ByteArray)) ++ t535) ++ (⟨#[32]⟩ : ByteArray)) ++ t539).size + (⟨#[32, 45]⟩ : ByteArray).size) 9223372036854775807) (some (((((((⟨#[98, 108, 111, 99, 107, 32]⟩ : ByteArray) ++ t531) ++ (⟨#[32]⟩ : ByteArray)) ++ t535) ++ (⟨#[32]⟩ : ByteArray)) ++ t539) ++ (⟨#[32, 45]⟩ : ByteArray)))) else ((spec_l7Text.l0 x0 k ((((((⟨#[98, 108, 111, 99, 107, 32]⟩ : ByteArray) ++ t531) ++ (⟨#[32]⟩ : ByteArray)) ++ t535) ++ (⟨#[32]⟩ : ByteArray)) ++ t539) 0).bind (fun a587 => some a587)))))))))))
theorem spec_l7Text.calls {k : Nat} {x0 : Block} {b0 f0 : Nat} {p0_0 : Value} {w : World} (hc0 : CellsAt w b0 f0 [.int .i64 x0.fPrev, .int .i64 x0.fHeight, .int .i64 x0.fMiner, p0_0]) (hp0_0 : RdS kInt w p0_0 x0.fTxs) {r : ByteArray} (H : spec_l7Text.f k x0 = some r) :
    Calls Tryd.prog 24 ([.pointer (some ⟨b0, f0, none⟩)] : List Value).toArray w (fun e w_ => ∃ v, e = .returned v ∧ v = (.string r) ∧ Mem w [] w_ []) := by
  have HM := Mem.start w
  refine calls_run (N := 58) Tryd.func24 rfl rfl rfl rfl ?_
  unfold spec_l7Text.f at H
  refine run_seq ?_
  refine run_region rfl ?_
  refine ops_ex rfl (guard_none rfl) rfl rfl (ex_assign rfl rfl) ?_
  refine ops_nil ?_
  refine at_then ?_
  refine run_seq ?_
  obtain ⟨t531, h532, H⟩ := bind_some H
  obtain ⟨e533, H⟩ := chk_some H
  obtain ⟨e534, H⟩ := chk_some H
  obtain ⟨t535, h536, H⟩ := bind_some H
  obtain ⟨e537, H⟩ := chk_some H
  obtain ⟨e538, H⟩ := chk_some H
  obtain ⟨t539, h540, H⟩ := bind_some H
  obtain ⟨e541, H⟩ := chk_some H
  refine run_drawf (fun w_ => Mem w [] w_ []) [(0, true), (1, true), (2, true), (3, true), (7, true), (8, true), (9, true), (10, true), (14, true), (15, true), (16, true), (17, true), (4, false), (5, true), (6, true), (11, false), (12, true), (13, true), (18, false), (19, true), (20, true)] mixed rfl rfl (by kernel_rfl) ?_
  replace HM := HM.grow (fr_drew _)
  have hS := Mem.suf (M := []) HM
  refine drwp_take rfl (guard_none rfl) rfl rfl (fun w_ hS_ => (ex_move rfl rfl)) hS ?_
  refine drwp_take rfl (guard_none rfl) rfl rfl (fun w_ hS_ => (ex_nilCheck rfl rfl)) hS ?_
  refine drwp_take rfl (guard_none rfl) rfl rfl (fun w_ hS_ => (ex_fieldAddr (off' := f0) rfl rfl Tryd.underlying38 rfl tsz2 rfl)) hS ?_
  refine drwp_take rfl (guard_none rfl) rfl rfl (fun w_ hS_ => (ex_load1 rfl rfl Tryd.underlying2 rfl ((hS_.at_ hc0) 0 _ rfl))) hS ?_
  refine drwp_take rfl (guard_none rfl) rfl rfl (fun w_ hS_ => (ex_move rfl rfl)) hS ?_
  refine drwp_take rfl (guard_none rfl) rfl rfl (fun w_ hS_ => (ex_nilCheck rfl rfl)) hS ?_
  refine drwp_take rfl (guard_none rfl) rfl rfl (fun w_ hS_ => (ex_fieldAddr (off' := f0 + 1) rfl rfl Tryd.underlying38 rfl tsz2 rfl)) hS ?_
  refine drwp_take rfl (guard_none rfl) rfl rfl (fun w_ hS_ => (ex_load1 rfl rfl Tryd.underlying2 rfl ((hS_.at_ hc0) 1 _ rfl))) hS ?_
  refine drwp_take rfl (guard_none rfl) rfl rfl (fun w_ hS_ => (ex_move rfl rfl)) hS ?_
  refine drwp_take rfl (guard_none rfl) rfl rfl (fun w_ hS_ => (ex_nilCheck rfl rfl)) hS ?_
  refine drwp_take rfl (guard_none rfl) rfl rfl (fun w_ hS_ => (ex_fieldAddr (off' := f0 + 2) rfl rfl Tryd.underlying38 rfl tsz2 rfl)) hS ?_
  refine drwp_take rfl (guard_none rfl) rfl rfl (fun w_ hS_ => (ex_load1 rfl rfl Tryd.underlying2 rfl ((hS_.at_ hc0) 2 _ rfl))) hS ?_
  refine drwp_one rfl (guard_none rfl) rfl rfl (does_callk rfl callok30 rfl (spec_l2Digits.calls (x0 := x0.fPrev) h532)) ?_
  rintro _ w542 ⟨rfl, hn⟩
  replace HM : Mem w [] w542 [] := HM.call hn
  refine ⟨Mem.suf (M := []) HM, ?_⟩
  have hS := Mem.suf (M := []) HM
  refine drwp_take rfl (guard_none rfl) rfl rfl (fun w_ hS_ => (ex_sadd rfl rfl rfl (leB_le e533))) hS ?_
  refine drwp_take rfl (guard_none rfl) rfl rfl (fun w_ hS_ => (ex_sadd rfl rfl rfl (leB_le e534))) hS ?_
  refine drwp_one rfl (guard_none rfl) rfl rfl (does_callk rfl callok30 rfl (spec_l2Digits.calls (x0 := x0.fHeight) h536)) ?_
  rintro _ w543 ⟨rfl, hn⟩
  replace HM : Mem w [] w543 [] := HM.call hn
  refine ⟨Mem.suf (M := []) HM, ?_⟩
  have hS := Mem.suf (M := []) HM
  refine drwp_take rfl (guard_none rfl) rfl rfl (fun w_ hS_ => (ex_sadd rfl rfl rfl (leB_le e537))) hS ?_
  refine drwp_take rfl (guard_none rfl) rfl rfl (fun w_ hS_ => (ex_sadd rfl rfl rfl (leB_le e538))) hS ?_
  refine drwp_one rfl (guard_none rfl) rfl rfl (does_callk rfl callok30 rfl (spec_l2Digits.calls (x0 := x0.fMiner) h540)) ?_
  rintro _ w544 ⟨rfl, hn⟩
  replace HM : Mem w [] w544 [] := HM.call hn
  refine ⟨Mem.suf (M := []) HM, ?_⟩
  have hS := Mem.suf (M := []) HM
  refine drwp_take rfl (guard_none rfl) rfl rfl (fun w_ hS_ => (ex_sadd rfl rfl rfl (leB_le e541))) hS ?_
  refine drwp_take rfl (guard_none rfl) rfl rfl (fun w_ hS_ => (ex_assign rfl rfl)) hS ?_
  refine drwp_done ?_
  refine at_then ?_
  refine run_seq ?_
  refine run_seq ?_
  refine run_region rfl ?_
  refine ops_ex rfl (guard_none rfl) rfl rfl (ex_move rfl rfl) ?_
  refine ops_ex rfl (guard_none rfl) rfl rfl (ex_nilCheck rfl rfl) ?_
  refine ops_ex rfl (guard_none rfl) rfl rfl (ex_fieldAddr (off' := f0 + 3) rfl rfl Tryd.underlying38 rfl tsz22 rfl) ?_
  refine ops_ex rfl (guard_none rfl) rfl rfl (ex_load1 rfl rfl Tryd.underlying22 rfl ((HM.at_ hc0) 3 _ rfl)) ?_
  refine ops_ex rfl (guard_none rfl) rfl rfl (ex_len (d := kInt) (xs := x0.fTxs) rfl rfl Tryd.underlying22 hp0_0) ?_
  refine ops_ex rfl (guard_none rfl) rfl rfl (ex_eql rfl rfl rfl) ?_
  refine ops_nil ?_
  refine at_then ?_
  refine run_cond (b := ((x0.fTxs.length : Int) == 0)) rfl (fun hb547 => ?_) (fun hb547 => ?_)
  · replace H := cond_t hb547 H
    refine run_seq ?_
    obtain ⟨e548, H⟩ := chk_some H
    refine run_region rfl ?_
    refine ops_ex rfl (guard_none rfl) rfl rfl (ex_move rfl rfl) ?_
    refine ops_ex rfl (guard_none rfl) rfl rfl (ex_sadd rfl rfl rfl (leB_le e548)) ?_
    refine ops_ex rfl (guard_none rfl) rfl rfl (ex_assign rfl rfl) ?_
    refine ops_nil ?_
    refine at_then ?_
    refine run_ret ?_
    refine at_then_ret ?_
    have hR := Option.some.inj H
    subst hR
    exact at_ret1 rfl rfl ⟨_, rfl, rfl, HM⟩
  · replace H := cond_f hb547 H
    refine run_skip ?_
    refine at_then ?_
    obtain ⟨o588, ho589, H⟩ := bind_some H
    refine run_mid (fun ρ_ w_ => ∃ a587 : ByteArray, a587 = o588 ∧ ρ_ = [(3, .string a587)] ∧ Mem w [] w_ []) ?_ ?_
    · clear H
      refine run_seq ?_
      refine run_region rfl ?_
      refine ops_ex rfl (guard_none rfl) rfl rfl (ex_assign rfl rfl) ?_
      refine ops_nil ?_
      refine at_then ?_
      refine run_block ?_
      refine run_loop (fun k_ ρ_ w_ => ∃ a602 : ByteArray, ∃ a603 : Int, spec_l7Text.l0 x0 k_ a602 a603 = some o588 ∧ ρ_ = [(0, .pointer (some ⟨b0, f0, none⟩)), (3, .string a602), (4, .int .i64 a603)] ∧ Mem w [] w_ []) k (ρ1 := [(0, .pointer (some ⟨b0, f0, none⟩)), (3, .string ((((((⟨#[98, 108, 111, 99, 107, 32]⟩ : ByteArray) ++ t531) ++ (⟨#[32]⟩ : ByteArray)) ++ t535) ++ (⟨#[32]⟩ : ByteArray)) ++ t539)), (4, .int .i64 0)]) ⟨_, _, ho589, rfl, HM⟩ (Sub.cons rfl (Sub.cons rfl (Sub.cons rfl Sub.nil))) ?_
      clear HM ho589
      rintro k616 _ w617 ⟨a602, a603, ho589, rfl, HM⟩
      obtain _ | k616 := k616
      · exact nomatch ((spec_l7Text.l0_z x0 a602 a603).symm.trans ho589)
      replace ho589 := (spec_l7Text.l0_s x0 k616 a602 a603).symm.trans ho589
      refine run_seq ?_
      refine run_seq ?_
      refine run_region rfl ?_
      refine ops_ex rfl (guard_none rfl) rfl rfl (ex_move rfl rfl) ?_
      refine ops_ex rfl (guard_none rfl) rfl rfl (ex_move rfl rfl) ?_
      refine ops_ex rfl (guard_none rfl) rfl rfl (ex_nilCheck rfl rfl) ?_
      refine ops_ex rfl (guard_none rfl) rfl rfl (ex_fieldAddr (off' := f0 + 3) rfl rfl Tryd.underlying38 rfl tsz22 rfl) ?_
      refine ops_ex rfl (guard_none rfl) rfl rfl (ex_load1 rfl rfl Tryd.underlying22 rfl ((HM.at_ hc0) 3 _ rfl)) ?_
      refine ops_ex rfl (guard_none rfl) rfl rfl (ex_len (d := kInt) (xs := x0.fTxs) rfl rfl Tryd.underlying22 hp0_0) ?_
      refine ops_ex rfl (guard_none rfl) rfl rfl (ex_lss rfl rfl rfl) ?_
      refine ops_nil ?_
      refine at_then ?_
      refine run_cond (b := (decide (a603 < (x0.fTxs.length : Int)))) rfl (fun hb618 => ?_) (fun hb618 => ?_)
      · replace ho589 := cond_t hb618 ho589
        refine run_skip ?_
        refine at_then ?_
        refine run_seq ?_
        refine run_block ?_
        refine run_seq ?_
        refine run_region rfl ?_
        refine ops_ex rfl (guard_none rfl) rfl rfl (ex_assign rfl rfl) ?_
        refine ops_nil ?_
        refine at_then ?_
        obtain ⟨o622, ho623, ho589⟩ := bind_some ho589
        refine run_mid (fun ρ_ w_ => ∃ a621 : ByteArray, a621 = o622 ∧ ρ_ = [(0, .pointer (some ⟨b0, f0, none⟩)), (3, .string a602), (4, .int .i64 a603), (5, .string a621)] ∧ Mem w [] w_ []) ?_ ?_
        · clear ho589
          refine run_seq ?_
          refine run_region rfl ?_
          refine ops_ex rfl (guard_none rfl) rfl rfl (ex_move rfl rfl) ?_
          refine ops_ex rfl (guard_none rfl) rfl rfl (ex_eql rfl rfl rfl) ?_
          refine ops_nil ?_
          refine at_then ?_
          refine run_cond (b := (a603 == 0)) rfl (fun hb624 => ?_) (fun hb624 => ?_)
          · replace ho623 := cond_t hb624 ho623
            refine run_region rfl ?_
            refine ops_ex rfl (guard_none rfl) rfl rfl (ex_assign rfl rfl) ?_
            refine ops_nil ?_
            exact at_mid (ρ' := [(0, .pointer (some ⟨b0, f0, none⟩)), (3, .string a602), (4, .int .i64 a603), (5, .string (⟨#[32]⟩ : ByteArray))]) ⟨_, (Option.some.inj ho623), rfl, HM⟩ (Sub.cons rfl (Sub.cons rfl (Sub.cons rfl (Sub.cons rfl Sub.nil))))
          · replace ho623 := cond_f hb624 ho623
            refine run_skip ?_
            exact at_mid (ρ' := [(0, .pointer (some ⟨b0, f0, none⟩)), (3, .string a602), (4, .int .i64 a603), (5, .string (⟨#[43]⟩ : ByteArray))]) ⟨_, (Option.some.inj ho623), rfl, HM⟩ (Sub.cons rfl (Sub.cons rfl (Sub.cons rfl (Sub.cons rfl Sub.nil))))
        · rintro _ w625 ⟨a621, rfl, rfl, HM⟩
          obtain ⟨e626, ho589⟩ := chk_some ho589
          obtain ⟨e627, ho589⟩ := chk_some ho589
          obtain ⟨t629, h630, ho589⟩ := bind_some ho589
          obtain ⟨e631, ho589⟩ := chk_some ho589
          refine run_region rfl ?_
          refine ops_ex rfl (guard_none rfl) rfl rfl (ex_move rfl rfl) ?_
          refine ops_ex rfl (guard_none rfl) rfl rfl (ex_move rfl rfl) ?_
          refine ops_ex rfl (guard_none rfl) rfl rfl (ex_sadd rfl rfl rfl (leB_le e626)) ?_
          refine ops_ex rfl (guard_none rfl) rfl rfl (ex_move rfl rfl) ?_
          refine ops_ex rfl (guard_none rfl) rfl rfl (ex_nilCheck rfl rfl) ?_
          refine ops_ex rfl (guard_none rfl) rfl rfl (ex_fieldAddr (off' := f0 + 3) rfl rfl Tryd.underlying38 rfl tsz22 rfl) ?_
          refine ops_ex rfl (guard_none rfl) rfl rfl (ex_load1 rfl rfl Tryd.underlying22 rfl ((HM.at_ hc0) 3 _ rfl)) ?_
          refine ops_ex rfl (guard_none rfl) rfl rfl (ex_move rfl rfl) ?_
          have hc628 : CellsAt _ (sb p0_0) (so p0_0 + (a603).toNat * 1) [(.int .i64 (gt x0.fTxs a603))] := rd_plain hp0_0 e627
          refine ops_ex rfl (guard_none rfl) rfl rfl (ex_indexAddr (d := kInt) rfl rfl rfl Tryd.underlying22 tsz2 hp0_0 (idx_lo e627) (idx_hi e627)) ?_
          refine ops_ex rfl (guard_none rfl) rfl rfl (ex_load1 rfl rfl Tryd.underlying2 rfl ((HM.at_ hc628) 0 _ rfl)) ?_
          refine ops_does rfl (guard_none rfl) rfl rfl (does_callk rfl callok30 rfl (spec_l2Digits.calls (x0 := (gt x0.fTxs a603)) h630)) ?_
          rintro _ w632 ⟨rfl, hn⟩
          replace HM : Mem w [] w632 [] := HM.call hn
          refine ops_ex rfl (guard_none rfl) rfl rfl (ex_sadd rfl rfl rfl (leB_le e631)) ?_
          refine ops_ex rfl (guard_none rfl) rfl rfl (ex_assign rfl rfl) ?_
          refine ops_nil ?_
          refine at_block ?_
          refine at_then ?_
          refine run_region rfl ?_
          refine ops_ex rfl (guard_none rfl) rfl rfl (ex_move rfl rfl) ?_
          refine ops_ex rfl (guard_none rfl) rfl rfl (ex_add rfl rfl rfl) ?_
          refine ops_ex rfl (guard_none rfl) rfl rfl (ex_assign rfl rfl) ?_
          refine ops_nil ?_
          exact at_again k616 (ρ1 := [(0, .pointer (some ⟨b0, f0, none⟩)), (3, .string ((a602 ++ a621) ++ t629)), (4, .int .i64 (wrap64 (a603 + 1)))]) (Nat.lt_succ_self _) ⟨_, _, ho589, rfl, HM⟩ (Sub.cons rfl (Sub.cons rfl (Sub.cons rfl Sub.nil)))
      · replace ho589 := cond_f hb618 ho589
        refine run_exit ?_
        refine at_then_exit ?_
        refine at_then_exit ?_
        refine at_block_exit ?_
        exact at_mid (ρ' := [(3, .string a602)]) ⟨_, (Option.some.inj ho589), rfl, HM⟩ (Sub.cons rfl Sub.nil)
    · rintro _ w633 ⟨a587, rfl, rfl, HM⟩
      refine run_seq ?_
      refine run_region rfl ?_
      refine ops_ex rfl (guard_none rfl) rfl rfl (ex_move rfl rfl) ?_
      refine ops_ex rfl (guard_none rfl) rfl rfl (ex_assign rfl rfl) ?_
      refine ops_nil ?_
      refine at_then ?_
      refine run_ret ?_
      have hR := Option.some.inj H
      subst hR
      exact at_ret1 rfl rfl ⟨_, rfl, rfl, HM⟩

def spec_BlockText.f (k : Nat) (x0 : Block) : Option TextResult := ((spec_l7Fault.f k x0).bind fun t644 => (bif (t644 != 0) then some (⟨t644, (⟨#[]⟩ : ByteArray)⟩ : TextResult) else ((spec_l7Text.f k x0).bind fun t649 => some (⟨0, t649⟩ : TextResult))))
theorem spec_BlockText.calls {k : Nat} {x0 : Block} {p0_0 : Value} {w : World} (hp0_0 : RdS kInt w p0_0 x0.fTxs) {r : TextResult} (H : spec_BlockText.f k x0 = some r) :
    Calls Tryd.prog 12 ([.agg #[(.int .i64 x0.fPrev), (.int .i64 x0.fHeight), (.int .i64 x0.fMiner), p0_0]] : List Value).toArray w (fun e w_ => ∃ v, e = .returned v ∧ v = (.agg #[.int .i64 r.fCode, .string r.fText]) ∧ Mem w [] w_ []) := by
  have HM := Mem.start w
  refine calls_run (N := 11) Tryd.func12 rfl rfl rfl rfl ?_
  unfold spec_BlockText.f at H
  refine run_seq ?_
  refine run_region rfl ?_
  refine ops_does rfl (guard_none rfl) rfl rfl (does_box (cs := [.int .i64 x0.fPrev, .int .i64 x0.fHeight, .int .i64 x0.fMiner, p0_0]) rfl rfl rfl HM) ?_
  rintro _ w642 ⟨b636, rfl, HM⟩
  refine ops_does rfl (guard_none rfl) rfl rfl (does_alloc (cs := [.int .i64 0, .string (⟨#[]⟩ : ByteArray)]) rfl tz27 rfl HM) ?_
  rintro _ w643 ⟨b639, rfl, HM⟩
  refine ops_nil ?_
  refine at_then ?_
  refine run_seq ?_
  refine run_seq ?_
  obtain ⟨t644, h645, H⟩ := bind_some H
  refine run_region rfl ?_
  refine ops_does rfl (guard_none rfl) rfl rfl (does_callk rfl callok23 rfl (spec_l7Fault.calls (x0 := x0) (HM.box_at 1 rfl) (HM.rd hp0_0) h645)) ?_
  rintro _ w646 ⟨rfl, hn⟩
  replace HM : Mem w [] w646 [box b639 27 [.int .i64 0, .string (⟨#[]⟩ : ByteArray)], box b636 38 [.int .i64 x0.fPrev, .int .i64 x0.fHeight, .int .i64 x0.fMiner, p0_0]] := HM.call hn
  refine ops_ex rfl (guard_none rfl) rfl rfl (ex_assign rfl rfl) ?_
  refine ops_nil ?_
  refine at_then ?_
  refine run_seq ?_
  refine run_region rfl ?_
  refine ops_ex rfl (guard_none rfl) rfl rfl (ex_move rfl rfl) ?_
  refine ops_ex rfl (guard_none rfl) rfl rfl (ex_neq rfl rfl rfl) ?_
  refine ops_nil ?_
  refine at_then ?_
  refine run_cond (b := (t644 != 0)) rfl (fun hb647 => ?_) (fun hb647 => ?_)
  · replace H := cond_t hb647 H
    refine run_seq ?_
    refine run_region rfl ?_
    refine ops_ex rfl (guard_none rfl) rfl rfl (ex_move rfl rfl) ?_
    refine ops_ex rfl (guard_none rfl) rfl rfl (ex_build (cells := #[(.int .i64 t644), (.string (⟨#[]⟩ : ByteArray))]) rfl rfl (by kernel_rfl)) ?_
    refine ops_doesS rfl (guard_none rfl) rfl (does_store (vs := [.int .i64 t644, .string (⟨#[]⟩ : ByteArray)]) (cs' := [.int .i64 t644, .string (⟨#[]⟩ : ByteArray)]) rfl rfl rfl rfl tsz27 (Ones.int (Ones.str Ones.nil)) rfl rfl HM) ?_
    rintro w648 HM
    refine ops_nil ?_
    refine at_then ?_
    refine run_ret ?_
    refine at_then_ret ?_
    replace HM := (HM.front 1 rfl rfl).drop
    have hcb0 := HM.box_at 0 rfl
    replace HM := (HM.front 0 rfl rfl).drop
    have hR := Option.some.inj H
    subst hR
    exact at_retN rfl rfl Tryd.underlying27 rfl tsz27 rfl hcb0 ⟨_, rfl, rfl, HM⟩
  · replace H := cond_f hb647 H
    refine run_skip ?_
    refine at_then ?_
    refine run_seq ?_
    obtain ⟨t649, h650, H⟩ := bind_some H
    refine run_region rfl ?_
    refine ops_does rfl (guard_none rfl) rfl rfl (does_callk rfl callok24 rfl (spec_l7Text.calls (x0 := x0) (HM.box_at 1 rfl) (HM.rd hp0_0) h650)) ?_
    rintro _ w651 ⟨rfl, hn⟩
    replace HM : Mem w [] w651 [box b639 27 [.int .i64 0, .string (⟨#[]⟩ : ByteArray)], box b636 38 [.int .i64 x0.fPrev, .int .i64 x0.fHeight, .int .i64 x0.fMiner, p0_0]] := HM.call hn
    refine ops_ex rfl (guard_none rfl) rfl rfl (ex_build (cells := #[(.int .i64 0), (.string t649)]) rfl rfl (by kernel_rfl)) ?_
    refine ops_doesS rfl (guard_none rfl) rfl (does_store (vs := [.int .i64 0, .string t649]) (cs' := [.int .i64 0, .string t649]) rfl rfl rfl rfl tsz27 (Ones.int (Ones.str Ones.nil)) rfl rfl HM) ?_
    rintro w652 HM
    refine ops_nil ?_
    refine at_then ?_
    refine run_ret ?_
    replace HM := (HM.front 1 rfl rfl).drop
    have hcb0 := HM.box_at 0 rfl
    replace HM := (HM.front 0 rfl rfl).drop
    have hR := Option.some.inj H
    subst hR
    exact at_retN rfl rfl Tryd.underlying27 rfl tsz27 rfl hcb0 ⟨_, rfl, rfl, HM⟩

def impl_within.f (k : Nat) (x0 : Int) (x1 : Int) (x2 : Int) : Option Bool := some ((decide (x1 ≤ x0)) && (decide (x0 ≤ x2)))
theorem impl_within.calls {k : Nat} {x0 : Int} {x1 : Int} {x2 : Int}  {w : World}  {r : Bool} (H : impl_within.f k x0 x1 x2 = some r) :
    Calls Tryd.prog 31 ([.int .i64 x0, .int .i64 x1, .int .i64 x2] : List Value).toArray w (fun e w_ => ∃ v, e = .returned v ∧ v = (.bool r) ∧ Mem w [] w_ []) := by
  have HM := Mem.start w
  refine calls_run (N := 15) Tryd.func31 rfl rfl rfl rfl ?_
  unfold impl_within.f at H
  refine run_seq ?_
  refine run_region rfl ?_
  refine ops_ex rfl (guard_none rfl) rfl rfl (ex_assign rfl rfl) ?_
  refine ops_nil ?_
  refine at_then ?_
  refine run_seq ?_
  refine run_meet (fun ρ_ w_ => ρ_ = [(6, .bool ((decide (x1 ≤ x0)) && (decide (x0 ≤ x2))))] ∧ Mem w [] w_ []) ?_ ?_
  · skip
    refine run_region rfl ?_
    refine ops_ex rfl (guard_none rfl) rfl rfl (ex_move rfl rfl) ?_
    refine ops_ex rfl (guard_none rfl) rfl rfl (ex_move rfl rfl) ?_
    refine ops_ex rfl (guard_none rfl) rfl rfl (ex_geq rfl rfl rfl) ?_
    refine ops_ex rfl (guard_none rfl) rfl rfl (ex_move rfl rfl) ?_
    refine bool_cases (decide (x1 ≤ x0)) (fun hg674 => ?_) (fun hg674 => ?_)
    · skip
      refine ops_ex rfl (guard_on rfl rfl rfl hg674) rfl rfl (ex_move rfl rfl) ?_
      refine ops_ex rfl (guard_on rfl rfl rfl hg674) rfl rfl (ex_move rfl rfl) ?_
      refine ops_ex rfl (guard_on rfl rfl rfl hg674) rfl rfl (ex_leq rfl rfl rfl) ?_
      refine ops_ex (v := .bool ((decide (x1 ≤ x0)) && (decide (x0 ≤ x2)))) rfl (guard_none rfl) rfl rfl (ex_pand_t rfl rfl hg674 rfl) ?_
      refine ops_ex rfl (guard_none rfl) rfl rfl (ex_assign rfl rfl) ?_
      refine ops_nil ?_
      exact at_meet [(6, .bool ((decide (x1 ≤ x0)) && (decide (x0 ≤ x2))))] ⟨rfl, HM⟩ (Sub.cons rfl Sub.nil)
    · skip
      refine ops_off rfl (guard_off rfl rfl rfl hg674) rfl rfl ?_
      refine ops_off rfl (guard_off rfl rfl rfl hg674) rfl rfl ?_
      refine ops_off rfl (guard_off rfl rfl rfl hg674) rfl rfl ?_
      have hg675 : ((decide (x1 ≤ x0)) && (decide (x0 ≤ x2))) = false := by simp only [hg674, Bool.and_true, Bool.true_and, Bool.and_false, Bool.false_and, Bool.or_true, Bool.true_or, Bool.or_false, Bool.false_or, Bool.not_true, Bool.not_false, Bool.not_not]
      refine ops_ex (v := .bool ((decide (x1 ≤ x0)) && (decide (x0 ≤ x2)))) rfl (guard_none rfl) rfl rfl (ex_pand_f rfl rfl hg674) ?_
      refine ops_ex rfl (guard_none rfl) rfl rfl (ex_assign rfl rfl) ?_
      refine ops_nil ?_
      exact at_meet [(6, .bool ((decide (x1 ≤ x0)) && (decide (x0 ≤ x2))))] ⟨rfl, HM⟩ (Sub.cons rfl Sub.nil)
  · rintro _ w676 ⟨rfl, HM⟩
    refine at_then ?_
    refine run_ret ?_
    have hR := Option.some.inj H
    subst hR
    exact at_ret1 rfl rfl ⟨_, rfl, rfl, HM⟩

def impl_isKey.f (k : Nat) (x0 : Int) : Option Bool := ((impl_within.f k x0 1 999).bind fun t683 => some t683)
theorem impl_isKey.calls {k : Nat} {x0 : Int}  {w : World}  {r : Bool} (H : impl_isKey.f k x0 = some r) :
    Calls Tryd.prog 38 ([.int .i64 x0] : List Value).toArray w (fun e w_ => ∃ v, e = .returned v ∧ v = (.bool r) ∧ Mem w [] w_ []) := by
  have HM := Mem.start w
  refine calls_run (N := 5) Tryd.func38 rfl rfl rfl rfl ?_
  unfold impl_isKey.f at H
  refine run_seq ?_
  refine run_region rfl ?_
  refine ops_ex rfl (guard_none rfl) rfl rfl (ex_assign rfl rfl) ?_
  refine ops_nil ?_
  refine at_then ?_
  refine run_seq ?_
  obtain ⟨t683, h684, H⟩ := bind_some H
  refine run_region rfl ?_
  refine ops_ex rfl (guard_none rfl) rfl rfl (ex_move rfl rfl) ?_
  refine ops_does rfl (guard_none rfl) rfl rfl (does_callk rfl callok31 rfl (impl_within.calls (x0 := x0) (x1 := 1) (x2 := 999) h684)) ?_
  rintro _ w685 ⟨rfl, hn⟩
  replace HM : Mem w [] w685 [] := HM.call hn
  refine ops_ex rfl (guard_none rfl) rfl rfl (ex_assign rfl rfl) ?_
  refine ops_nil ?_
  refine at_then ?_
  refine run_ret ?_
  have hR := Option.some.inj H
  subst hR
  exact at_ret1 rfl rfl ⟨_, rfl, rfl, HM⟩

def impl_isId.f (k : Nat) (x0 : Int) : Option Bool := ((impl_within.f k x0 1 60).bind fun t705 => some t705)
theorem impl_isId.calls {k : Nat} {x0 : Int}  {w : World}  {r : Bool} (H : impl_isId.f k x0 = some r) :
    Calls Tryd.prog 39 ([.int .i64 x0] : List Value).toArray w (fun e w_ => ∃ v, e = .returned v ∧ v = (.bool r) ∧ Mem w [] w_ []) := by
  have HM := Mem.start w
  refine calls_run (N := 5) Tryd.func39 rfl rfl rfl rfl ?_
  unfold impl_isId.f at H
  refine run_seq ?_
  refine run_region rfl ?_
  refine ops_ex rfl (guard_none rfl) rfl rfl (ex_assign rfl rfl) ?_
  refine ops_nil ?_
  refine at_then ?_
  refine run_seq ?_
  obtain ⟨t705, h706, H⟩ := bind_some H
  refine run_region rfl ?_
  refine ops_ex rfl (guard_none rfl) rfl rfl (ex_move rfl rfl) ?_
  refine ops_does rfl (guard_none rfl) rfl rfl (does_callk rfl callok31 rfl (impl_within.calls (x0 := x0) (x1 := 1) (x2 := 60) h706)) ?_
  rintro _ w707 ⟨rfl, hn⟩
  replace HM : Mem w [] w707 [] := HM.call hn
  refine ops_ex rfl (guard_none rfl) rfl rfl (ex_assign rfl rfl) ?_
  refine ops_nil ?_
  refine at_then ?_
  refine run_ret ?_
  have hR := Option.some.inj H
  subst hR
  exact at_ret1 rfl rfl ⟨_, rfl, rfl, HM⟩

def slices_Index_int64.l0 (x0 : List Int) (x1 : Int) : Nat → Int → Option (Int ⊕ Unit)
  | 0, _ => none
  | k + 1, a752 => (bif (decide (a752 < (x0.length : Int))) then (chk (idxOk a752 x0.length) (bif (x1 == (gt x0 a752)) then some (.inl a752) else slices_Index_int64.l0 x0 x1 k (wrap64 (a752 + 1)))) else some (.inr ()))
theorem slices_Index_int64.l0_z (x0 : List Int) (x1 : Int) (a752 : Int) : slices_Index_int64.l0 x0 x1 0 a752 = none := rfl
theorem slices_Index_int64.l0_s (x0 : List Int) (x1 : Int) (k : Nat) (a752 : Int) : slices_Index_int64.l0 x0 x1 (k + 1) a752 = (bif (decide (a752 < (x0.length : Int))) then (chk (idxOk a752 x0.length) (bif (x1 == (gt x0 a752)) then some (.inl a752) else slices_Index_int64.l0 x0 x1 k (wrap64 (a752 + 1)))) else some (.inr ())) := rfl
def slices_Index_int64.f (k : Nat) (x0 : List Int) (x1 : Int) : Option Int := ((slices_Index_int64.l0 x0 x1 k 0).bind fun o746 => thn o746 (fun r => some r) (fun _ => some (-1)))
theorem slices_Index_int64.calls {k : Nat} {x0 : List Int} {x1 : Int} {p0 : Value} {w : World} (hp0 : RdS kInt w p0 x0) {r : Int} (H : slices_Index_int64.f k x0 x1 = some r) :
    Calls Tryd.prog 45 ([p0, .int .i64 x1] : List Value).toArray w (fun e w_ => ∃ v, e = .returned v ∧ v = (.int .i64 r) ∧ Mem w [] w_ []) := by
  have HM := Mem.start w
  refine calls_run (N := 19) Tryd.func45 rfl rfl rfl rfl ?_
  unfold slices_Index_int64.f at H
  refine run_seq ?_
  refine run_region rfl ?_
  refine ops_ex rfl (guard_none rfl) rfl rfl (ex_assign rfl rfl) ?_
  refine ops_nil ?_
  refine at_then ?_
  obtain ⟨o746, ho747, H⟩ := bind_some H
  refine run_mid (fun ρ_ w_ => Sum.inr () = o746 ∧ ρ_ = [] ∧ Mem w [] w_ []) ?_ ?_
  · skip
    refine run_seq ?_
    refine run_region rfl ?_
    refine ops_ex rfl (guard_none rfl) rfl rfl (ex_move rfl rfl) ?_
    refine ops_ex rfl (guard_none rfl) rfl rfl (ex_len (d := kInt) (xs := x0) rfl rfl Tryd.underlying22 hp0) ?_
    refine ops_ex rfl (guard_none rfl) rfl rfl (ex_move rfl rfl) ?_
    refine ops_nil ?_
    refine at_then ?_
    refine run_block ?_
    refine run_loop (fun k_ ρ_ w_ => ∃ a752 : Int, slices_Index_int64.l0 x0 x1 k_ a752 = some o746 ∧ ρ_ = [(0, p0), (1, .int .i64 x1), (7, .int .i64 (x0.length : Int)), (8, .int .i64 a752)] ∧ Mem w [] w_ []) k (ρ1 := [(0, p0), (1, .int .i64 x1), (7, .int .i64 (x0.length : Int)), (8, .int .i64 0)]) ⟨_, ho747, rfl, HM⟩ (Sub.cons rfl (Sub.cons rfl (Sub.cons rfl (Sub.cons rfl Sub.nil)))) ?_
    clear HM ho747
    rintro k757 _ w758 ⟨a752, ho747, rfl, HM⟩
    obtain _ | k757 := k757
    · exact nomatch ((slices_Index_int64.l0_z x0 x1 a752).symm.trans ho747)
    replace ho747 := (slices_Index_int64.l0_s x0 x1 k757 a752).symm.trans ho747
    refine run_seq ?_
    refine run_region rfl ?_
    refine ops_ex rfl (guard_none rfl) rfl rfl (ex_lss rfl rfl rfl) ?_
    refine ops_nil ?_
    refine at_then ?_
    refine run_seq ?_
    refine run_cond (b := (decide (a752 < (x0.length : Int)))) rfl (fun hb759 => ?_) (fun hb759 => ?_)
    · replace ho747 := cond_t hb759 ho747
      refine run_skip ?_
      refine at_then ?_
      refine run_seq ?_
      refine run_block ?_
      refine run_seq ?_
      refine run_region rfl ?_
      refine ops_ex rfl (guard_none rfl) rfl rfl (ex_move rfl rfl) ?_
      refine ops_ex rfl (guard_none rfl) rfl rfl (ex_assign rfl rfl) ?_
      refine ops_nil ?_
      refine at_then ?_
      refine run_seq ?_
      obtain ⟨e760, ho747⟩ := chk_some ho747
      refine run_region rfl ?_
      refine ops_ex rfl (guard_none rfl) rfl rfl (ex_move rfl rfl) ?_
      refine ops_ex rfl (guard_none rfl) rfl rfl (ex_move rfl rfl) ?_
      refine ops_ex rfl (guard_none rfl) rfl rfl (ex_move rfl rfl) ?_
      have hc761 : CellsAt _ (sb p0) (so p0 + (a752).toNat * 1) [(.int .i64 (gt x0 a752))] := rd_plain hp0 e760
      refine ops_ex rfl (guard_none rfl) rfl rfl (ex_indexAddr (d := kInt) rfl rfl rfl Tryd.underlying22 tsz2 hp0 (idx_lo e760) (idx_hi e760)) ?_
      refine ops_ex rfl (guard_none rfl) rfl rfl (ex_load1 rfl rfl Tryd.underlying2 rfl ((HM.at_ hc761) 0 _ rfl)) ?_
      refine ops_ex rfl (guard_none rfl) rfl rfl (ex_eql rfl rfl rfl) ?_
      refine ops_nil ?_
      refine at_then ?_
      refine run_cond (b := (x1 == (gt x0 a752))) rfl (fun hb762 => ?_) (fun hb762 => ?_)
      · replace ho747 := cond_t hb762 ho747
        refine run_seq ?_
        refine run_region rfl ?_
        refine ops_ex rfl (guard_none rfl) rfl rfl (ex_move rfl rfl) ?_
        refine ops_ex rfl (guard_none rfl) rfl rfl (ex_assign rfl rfl) ?_
        refine ops_nil ?_
        refine at_then ?_
        refine run_ret ?_
        refine at_block_ret ?_
        refine at_then_ret ?_
        refine at_then_ret ?_
        refine at_block_ret ?_
        refine at_then_ret ?_
        have hR := Option.some.inj ho747
        subst hR
        have hT := thn_inl H
        have hR := Option.some.inj hT
        subst hR
        exact at_ret1 rfl rfl ⟨_, rfl, rfl, HM⟩
      · replace ho747 := cond_f hb762 ho747
        refine run_skip ?_
        refine at_block ?_
        refine at_then ?_
        refine run_region rfl ?_
        refine ops_ex rfl (guard_none rfl) rfl rfl (ex_add rfl rfl rfl) ?_
        refine ops_ex rfl (guard_none rfl) rfl rfl (ex_move rfl rfl) ?_
        refine ops_nil ?_
        exact at_again k757 (ρ1 := [(0, p0), (1, .int .i64 x1), (7, .int .i64 (x0.length : Int)), (8, .int .i64 (wrap64 (a752 + 1)))]) (Nat.lt_succ_self _) ⟨_, ho747, rfl, HM⟩ (Sub.cons rfl (Sub.cons rfl (Sub.cons rfl (Sub.cons rfl Sub.nil))))
    · replace ho747 := cond_f hb759 ho747
      refine run_exit ?_
      refine at_then_exit ?_
      refine at_then_exit ?_
      refine at_block_exit ?_
      exact at_mid (ρ' := []) ⟨(Option.some.inj ho747), rfl, HM⟩ Sub.nil
  · rintro _ w763 ⟨rfl, rfl, HM⟩
    replace H := (thn_inr H)
    refine run_seq ?_
    refine run_region rfl ?_
    refine ops_ex rfl (guard_none rfl) rfl rfl (ex_assign rfl rfl) ?_
    refine ops_nil ?_
    refine at_then ?_
    refine run_ret ?_
    have hR := Option.some.inj H
    subst hR
    exact at_ret1 rfl rfl ⟨_, rfl, rfl, HM⟩

def slices_Contains_int64.f (k : Nat) (x0 : List Int) (x1 : Int) : Option Bool := ((slices_Index_int64.f k x0 x1).bind fun t766 => some (decide (0 ≤ t766)))
theorem slices_Contains_int64.calls {k : Nat} {x0 : List Int} {x1 : Int} {p0 : Value} {w : World} (hp0 : RdS kInt w p0 x0) {r : Bool} (H : slices_Contains_int64.f k x0 x1 = some r) :
    Calls Tryd.prog 40 ([p0, .int .i64 x1] : List Value).toArray w (fun e w_ => ∃ v, e = .returned v ∧ v = (.bool r) ∧ Mem w [] w_ []) := by
  have HM := Mem.start w
  refine calls_run (N := 9) Tryd.func40 rfl rfl rfl rfl ?_
  unfold slices_Contains_int64.f at H
  refine run_seq ?_
  refine run_region rfl ?_
  refine ops_ex rfl (guard_none rfl) rfl rfl (ex_assign rfl rfl) ?_
  refine ops_nil ?_
  refine at_then ?_
  refine run_seq ?_
  obtain ⟨t766, h767, H⟩ := bind_some H
  refine run_region rfl ?_
  refine ops_ex rfl (guard_none rfl) rfl rfl (ex_move rfl rfl) ?_
  refine ops_ex rfl (guard_none rfl) rfl rfl (ex_move rfl rfl) ?_
  refine ops_does rfl (guard_none rfl) rfl rfl (does_callk rfl callok45 rfl (slices_Index_int64.calls (x0 := x0) (x1 := x1) (HM.rd hp0) h767)) ?_
  rintro _ w768 ⟨rfl, hn⟩
  replace HM : Mem w [] w768 [] := HM.call hn
  refine ops_ex rfl (guard_none rfl) rfl rfl (ex_geq rfl rfl rfl) ?_
  refine ops_ex rfl (guard_none rfl) rfl rfl (ex_assign rfl rfl) ?_
  refine ops_nil ?_
  refine at_then ?_
  refine run_ret ?_
  have hR := Option.some.inj H
  subst hR
  exact at_ret1 rfl rfl ⟨_, rfl, rfl, HM⟩

def impl_BlockFault.l0 (x0 : Block) : Nat → Int → Option (Int ⊕ Unit)
  | 0, _ => none
  | k + 1, a905 => (bif (decide (a905 < (x0.fTxs.length : Int))) then (chk (idxOk a905 x0.fTxs.length) ((impl_isId.f k (gt x0.fTxs a905)).bind fun t930 => (bif !t930 then some (.inl 3) else (chk (cutOk a905 x0.fTxs.length) ((slices_Contains_int64.f k (x0.fTxs.take (a905).toNat) (gt x0.fTxs a905)).bind fun t938 => (bif t938 then some (.inl 7) else impl_BlockFault.l0 x0 k (wrap64 (a905 + 1)))))))) else some (.inr ()))
theorem impl_BlockFault.l0_z (x0 : Block) (a905 : Int) : impl_BlockFault.l0 x0 0 a905 = none := rfl
theorem impl_BlockFault.l0_s (x0 : Block) (k : Nat) (a905 : Int) : impl_BlockFault.l0 x0 (k + 1) a905 = (bif (decide (a905 < (x0.fTxs.length : Int))) then (chk (idxOk a905 x0.fTxs.length) ((impl_isId.f k (gt x0.fTxs a905)).bind fun t930 => (bif !t930 then some (.inl 3) else (chk (cutOk a905 x0.fTxs.length) ((slices_Contains_int64.f k (x0.fTxs.take (a905).toNat) (gt x0.fTxs a905)).bind fun t938 => (bif t938 then some (.inl 7) else impl_BlockFault.l0 x0 k (wrap64 (a905 + 1)))))))) else some (.inr ())) := rfl
def impl_BlockFault.f (k : Nat) (x0 : Block) : Option Int := ((impl_within.f k x0.fPrev 0 60).bind fun t820 => ((bif (!(!t820)) then impl_within.f k x0.fHeight 1 40 else some default).bind fun t822 => ((bif (!((!t820) || (!t822))) then impl_isKey.f k x0.fMiner else some default).bind fun t824 => (bif (((!t820) || (!t822)) || (!t824)) then some 3 else (bif ((x0.fPrev == 0) != (x0.fHeight == 1)) then some 1 else (bif (decide (6 < (x0.fTxs.length : Int))) then some 2 else ((impl_BlockFault.l0 x0 k 0).bind fun o887 => thn o887 (fun r => some r) (fun _ => some 0))))))))
theorem impl_BlockFault.calls {k : Nat} {x0 : Block} {p0_0 : Value} {w : World} (hp0_0 : RdS kInt w p0_0 x0.fTxs) {r : Int} (H : impl_BlockFault.f k x0 = some r) :
    Calls Tryd.prog 25 ([.agg #[(.int .i64 x0.fPrev), (.int .i64 x0.fHeight), (.int .i64 x0.fMiner), p0_0]] : List Value).toArray w (fun e w_ => ∃ v, e = .returned v ∧ v = (.int .i64 r) ∧ Mem w [] w_ []) := by
  have HM := Mem.start w
  refine calls_run (N := 53) Tryd.func25 rfl rfl rfl rfl ?_
  unfold impl_BlockFault.f at H
  refine run_seq ?_
  refine run_region rfl ?_
  refine ops_does rfl (guard_none rfl) rfl rfl (does_box (cs := [.int .i64 x0.fPrev, .int .i64 x0.fHeight, .int .i64 x0.fMiner, p0_0]) rfl rfl rfl HM) ?_
  rintro _ w810 ⟨b807, rfl, HM⟩
  refine ops_ex rfl (guard_none rfl) rfl rfl (ex_assign rfl rfl) ?_
  refine ops_nil ?_
  refine at_then ?_
  refine run_seq ?_
  refine run_block ?_
  refine run_seq ?_
  obtain ⟨t820, h821, H⟩ := bind_some H
  obtain ⟨t822, h823, H⟩ := bind_some H
  obtain ⟨t824, h825, H⟩ := bind_some H
  refine run_meet (fun ρ_ w_ => ρ_ = [(1, .pointer (some ⟨b807, 0, none⟩)), (5, .bool (((!t820) || (!t822)) || (!t824)))] ∧ Mem w [] w_ [box b807 38 [.int .i64 x0.fPrev, .int .i64 x0.fHeight, .int .i64 x0.fMiner, p0_0]]) ?_ ?_
  · skip
    refine run_region rfl ?_
    refine ops_ex rfl (guard_none rfl) rfl rfl (ex_fieldAddr (off' := 0) rfl rfl Tryd.underlying38 rfl tsz2 rfl) ?_
    refine ops_ex rfl (guard_none rfl) rfl rfl (ex_load1 rfl rfl Tryd.underlying2 rfl ((HM.box_at 0 rfl) 0 _ rfl)) ?_
    refine ops_does rfl (guard_none rfl) rfl rfl (does_callk rfl callok31 rfl (impl_within.calls (x0 := x0.fPrev) (x1 := 0) (x2 := 60) h821)) ?_
    rintro _ w826 ⟨rfl, hn⟩
    replace HM : Mem w [] w826 [box b807 38 [.int .i64 x0.fPrev, .int .i64 x0.fHeight, .int .i64 x0.fMiner, p0_0]] := HM.call hn
    refine ops_ex rfl (guard_none rfl) rfl rfl (ex_not rfl rfl) ?_
    refine ops_ex rfl (guard_none rfl) rfl rfl (ex_move rfl rfl) ?_
    refine bool_cases (!t820) (fun hg827 => ?_) (fun hg827 => ?_)
    · skip
      refine ops_off rfl (guard_off rfl rfl rfl hg827) rfl rfl ?_
      refine ops_off rfl (guard_off rfl rfl rfl hg827) rfl rfl ?_
      refine ops_off rfl (guard_off rfl rfl rfl hg827) rfl rfl ?_
      refine ops_off rfl (guard_off rfl rfl rfl hg827) rfl rfl ?_
      have hg828 : ((!t820) || (!t822)) = true := by simp only [hg827, Bool.and_true, Bool.true_and, Bool.and_false, Bool.false_and, Bool.or_true, Bool.true_or, Bool.or_false, Bool.false_or, Bool.not_true, Bool.not_false, Bool.not_not]
      refine ops_ex (v := .bool ((!t820) || (!t822))) rfl (guard_none rfl) rfl rfl (ex_por_t rfl rfl hg827) ?_
      refine ops_ex rfl (guard_none rfl) rfl rfl (ex_move rfl rfl) ?_
      refine ops_off rfl (guard_off rfl rfl rfl hg828) rfl rfl ?_
      refine ops_off rfl (guard_off rfl rfl rfl hg828) rfl rfl ?_
      refine ops_off rfl (guard_off rfl rfl rfl hg828) rfl rfl ?_
      refine ops_off rfl (guard_off rfl rfl rfl hg828) rfl rfl ?_
      have hg829 : (((!t820) || (!t822)) || (!t824)) = true := by simp only [hg828, Bool.and_true, Bool.true_and, Bool.and_false, Bool.false_and, Bool.or_true, Bool.true_or, Bool.or_false, Bool.false_or, Bool.not_true, Bool.not_false, Bool.not_not]
      refine ops_ex (v := .bool (((!t820) || (!t822)) || (!t824))) rfl (guard_none rfl) rfl rfl (ex_por_t rfl rfl hg828) ?_
      refine ops_ex rfl (guard_none rfl) rfl rfl (ex_assign rfl rfl) ?_
      refine ops_nil ?_
      exact at_meet [(1, .pointer (some ⟨b807, 0, none⟩)), (5, .bool (((!t820) || (!t822)) || (!t824)))] ⟨rfl, HM⟩ (Sub.cons rfl (Sub.cons rfl Sub.nil))
    · skip
      refine ops_ex rfl (guard_on rfl rfl rfl hg827) rfl rfl (ex_fieldAddr (off' := 1) rfl rfl Tryd.underlying38 rfl tsz2 rfl) ?_
      refine ops_ex rfl (guard_on rfl rfl rfl hg827) rfl rfl (ex_load1 rfl rfl Tryd.underlying2 rfl ((HM.box_at 0 rfl) 1 _ rfl)) ?_
      refine ops_does rfl (guard_on rfl rfl rfl hg827) rfl rfl (does_callk rfl callok31 rfl (impl_within.calls (x0 := x0.fHeight) (x1 := 1) (x2 := 40) (cond_t (not_mk hg827) h823))) ?_
      rintro _ w830 ⟨rfl, hn⟩
      replace HM : Mem w [] w830 [box b807 38 [.int .i64 x0.fPrev, .int .i64 x0.fHeight, .int .i64 x0.fMiner, p0_0]] := HM.call hn
      refine ops_ex rfl (guard_on rfl rfl rfl hg827) rfl rfl (ex_not rfl rfl) ?_
      refine ops_ex (v := .bool ((!t820) || (!t822))) rfl (guard_none rfl) rfl rfl (ex_por_f rfl rfl hg827 rfl) ?_
      refine ops_ex rfl (guard_none rfl) rfl rfl (ex_move rfl rfl) ?_
      refine bool_cases ((!t820) || (!t822)) (fun hg831 => ?_) (fun hg831 => ?_)
      · skip
        refine ops_off rfl (guard_off rfl rfl rfl hg831) rfl rfl ?_
        refine ops_off rfl (guard_off rfl rfl rfl hg831) rfl rfl ?_
        refine ops_off rfl (guard_off rfl rfl rfl hg831) rfl rfl ?_
        refine ops_off rfl (guard_off rfl rfl rfl hg831) rfl rfl ?_
        have hg832 : (((!t820) || (!t822)) || (!t824)) = true := by simp only [hg831, Bool.and_true, Bool.true_and, Bool.and_false, Bool.false_and, Bool.or_true, Bool.true_or, Bool.or_false, Bool.false_or, Bool.not_true, Bool.not_false, Bool.not_not]
        refine ops_ex (v := .bool (((!t820) || (!t822)) || (!t824))) rfl (guard_none rfl) rfl rfl (ex_por_t rfl rfl hg831) ?_
        refine ops_ex rfl (guard_none rfl) rfl rfl (ex_assign rfl rfl) ?_
        refine ops_nil ?_
        exact at_meet [(1, .pointer (some ⟨b807, 0, none⟩)), (5, .bool (((!t820) || (!t822)) || (!t824)))] ⟨rfl, HM⟩ (Sub.cons rfl (Sub.cons rfl Sub.nil))
      · skip
        refine ops_ex rfl (guard_on rfl rfl rfl hg831) rfl rfl (ex_fieldAddr (off' := 2) rfl rfl Tryd.underlying38 rfl tsz2 rfl) ?_
        refine ops_ex rfl (guard_on rfl rfl rfl hg831) rfl rfl (ex_load1 rfl rfl Tryd.underlying2 rfl ((HM.box_at 0 rfl) 2 _ rfl)) ?_
        refine ops_does rfl (guard_on rfl rfl rfl hg831) rfl rfl (does_callk rfl callok38 rfl (impl_isKey.calls (x0 := x0.fMiner) (cond_t (not_mk hg831) h825))) ?_
        rintro _ w833 ⟨rfl, hn⟩
        replace HM : Mem w [] w833 [box b807 38 [.int .i64 x0.fPrev, .int .i64 x0.fHeight, .int .i64 x0.fMiner, p0_0]] := HM.call hn
        refine ops_ex rfl (guard_on rfl rfl rfl hg831) rfl rfl (ex_not rfl rfl) ?_
        refine ops_ex (v := .bool (((!t820) || (!t822)) || (!t824))) rfl (guard_none rfl) rfl rfl (ex_por_f rfl rfl hg831 rfl) ?_
        refine ops_ex rfl (guard_none rfl) rfl rfl (ex_assign rfl rfl) ?_
        refine ops_nil ?_
        exact at_meet [(1, .pointer (some ⟨b807, 0, none⟩)), (5, .bool (((!t820) || (!t822)) || (!t824)))] ⟨rfl, HM⟩ (Sub.cons rfl (Sub.cons rfl Sub.nil))
  · rintro _ w834 ⟨rfl, HM⟩
    refine at_then ?_
    refine run_cond (b := (((!t820) || (!t822)) || (!t824))) rfl (fun hb835 => ?_) (fun hb835 => ?_)
    · replace H := cond_t hb835 H
      refine run_seq ?_
      refine run_region rfl ?_
      refine ops_ex rfl (guard_none rfl) rfl rfl (ex_assign rfl rfl) ?_
      refine ops_nil ?_
      refine at_then ?_
      refine run_ret ?_
      refine at_block_ret ?_
      refine at_then_ret ?_
      replace HM := (HM.front 0 rfl rfl).drop
      have hR := Option.some.inj H
      subst hR
      exact at_ret1 rfl rfl ⟨_, rfl, rfl, HM⟩
    · replace H := cond_f hb835 H
      refine run_seq ?_
      refine run_region rfl ?_
      refine ops_ex rfl (guard_none rfl) rfl rfl (ex_fieldAddr (off' := 0) rfl rfl Tryd.underlying38 rfl tsz2 rfl) ?_
      refine ops_ex rfl (guard_none rfl) rfl rfl (ex_load1 rfl rfl Tryd.underlying2 rfl ((HM.box_at 0 rfl) 0 _ rfl)) ?_
      refine ops_ex rfl (guard_none rfl) rfl rfl (ex_eql rfl rfl rfl) ?_
      refine ops_ex rfl (guard_none rfl) rfl rfl (ex_fieldAddr (off' := 1) rfl rfl Tryd.underlying38 rfl tsz2 rfl) ?_
      refine ops_ex rfl (guard_none rfl) rfl rfl (ex_load1 rfl rfl Tryd.underlying2 rfl ((HM.box_at 0 rfl) 1 _ rfl)) ?_
      refine ops_ex rfl (guard_none rfl) rfl rfl (ex_eql rfl rfl rfl) ?_
      refine ops_ex rfl (guard_none rfl) rfl rfl (ex_bneq rfl rfl rfl Tryd.underlying4) ?_
      refine ops_ex rfl (guard_none rfl) rfl rfl (ex_assign rfl rfl) ?_
      refine ops_nil ?_
      refine at_then ?_
      refine run_cond (b := ((x0.fPrev == 0) != (x0.fHeight == 1))) rfl (fun hb836 => ?_) (fun hb836 => ?_)
      · replace H := cond_t hb836 H
        refine run_seq ?_
        refine run_region rfl ?_
        refine ops_ex rfl (guard_none rfl) rfl rfl (ex_assign rfl rfl) ?_
        refine ops_nil ?_
        refine at_then ?_
        refine run_ret ?_
        refine at_block_ret ?_
        refine at_then_ret ?_
        replace HM := (HM.front 0 rfl rfl).drop
        have hR := Option.some.inj H
        subst hR
        exact at_ret1 rfl rfl ⟨_, rfl, rfl, HM⟩
      · replace H := cond_f hb836 H
        refine run_seq ?_
        refine run_region rfl ?_
        refine ops_ex rfl (guard_none rfl) rfl rfl (ex_fieldAddr (off' := 3) rfl rfl Tryd.underlying38 rfl tsz22 rfl) ?_
        refine ops_ex rfl (guard_none rfl) rfl rfl (ex_load1 rfl rfl Tryd.underlying22 rfl ((HM.box_at 0 rfl) 3 _ rfl)) ?_
        refine ops_ex rfl (guard_none rfl) rfl rfl (ex_len (d := kInt) (xs := x0.fTxs) rfl rfl Tryd.underlying22 hp0_0) ?_
        refine ops_ex rfl (guard_none rfl) rfl rfl (ex_gtr rfl rfl rfl) ?_
        refine ops_ex rfl (guard_none rfl) rfl rfl (ex_assign rfl rfl) ?_
        refine ops_nil ?_
        refine at_then ?_
        refine run_cond (b := (decide (6 < (x0.fTxs.length : Int)))) rfl (fun hb837 => ?_) (fun hb837 => ?_)
        · replace H := cond_t hb837 H
          refine run_seq ?_
          refine run_region rfl ?_
          refine ops_ex rfl (guard_none rfl) rfl rfl (ex_assign rfl rfl) ?_
          refine ops_nil ?_
          refine at_then ?_
          refine run_ret ?_
          refine at_block_ret ?_
          refine at_then_ret ?_
          replace HM := (HM.front 0 rfl rfl).drop
          have hR := Option.some.inj H
          subst hR
          exact at_ret1 rfl rfl ⟨_, rfl, rfl, HM⟩
        · replace H := cond_f hb837 H
          refine run_skip ?_
          refine at_block ?_
          refine at_then ?_
          obtain ⟨o887, ho888, H⟩ := bind_some H
          refine run_mid (fun ρ_ w_ => Sum.inr () = o887 ∧ ρ_ = [] ∧ Mem w [] w_ []) ?_ ?_
          · skip
            refine run_seq ?_
            refine run_region rfl ?_
            refine ops_ex rfl (guard_none rfl) rfl rfl (ex_fieldAddr (off' := 3) rfl rfl Tryd.underlying38 rfl tsz22 rfl) ?_
            refine ops_ex rfl (guard_none rfl) rfl rfl (ex_load1 rfl rfl Tryd.underlying22 rfl ((HM.box_at 0 rfl) 3 _ rfl)) ?_
            refine ops_ex rfl (guard_none rfl) rfl rfl (ex_len (d := kInt) (xs := x0.fTxs) rfl rfl Tryd.underlying22 hp0_0) ?_
            refine ops_ex rfl (guard_none rfl) rfl rfl (ex_move rfl rfl) ?_
            refine ops_nil ?_
            refine at_then ?_
            refine run_block ?_
            refine run_loop (fun k_ ρ_ w_ => ∃ a905 : Int, impl_BlockFault.l0 x0 k_ a905 = some o887 ∧ ρ_ = [(1, .pointer (some ⟨b807, 0, none⟩)), (36, p0_0), (37, .int .i64 (x0.fTxs.length : Int)), (38, .int .i64 a905)] ∧ Mem w [] w_ [box b807 38 [.int .i64 x0.fPrev, .int .i64 x0.fHeight, .int .i64 x0.fMiner, p0_0]]) k (ρ1 := [(1, .pointer (some ⟨b807, 0, none⟩)), (36, p0_0), (37, .int .i64 (x0.fTxs.length : Int)), (38, .int .i64 0)]) ⟨_, ho888, rfl, HM⟩ (Sub.cons rfl (Sub.cons rfl (Sub.cons rfl (Sub.cons rfl Sub.nil)))) ?_
            clear HM ho888
            rintro k922 _ w923 ⟨a905, ho888, rfl, HM⟩
            obtain _ | k922 := k922
            · exact nomatch ((impl_BlockFault.l0_z x0 a905).symm.trans ho888)
            replace ho888 := (impl_BlockFault.l0_s x0 k922 a905).symm.trans ho888
            refine run_seq ?_
            refine run_region rfl ?_
            refine ops_ex rfl (guard_none rfl) rfl rfl (ex_lss rfl rfl rfl) ?_
            refine ops_nil ?_
            refine at_then ?_
            refine run_seq ?_
            refine run_cond (b := (decide (a905 < (x0.fTxs.length : Int)))) rfl (fun hb924 => ?_) (fun hb924 => ?_)
            · replace ho888 := cond_t hb924 ho888
              refine run_skip ?_
              refine at_then ?_
              refine run_seq ?_
              refine run_block ?_
              refine run_seq ?_
              obtain ⟨e925, ho888⟩ := chk_some ho888
              refine run_region rfl ?_
              refine ops_ex rfl (guard_none rfl) rfl rfl (ex_move rfl rfl) ?_
              have hc926 : CellsAt _ (sb p0_0) (so p0_0 + (a905).toNat * 1) [(.int .i64 (gt x0.fTxs a905))] := rd_plain hp0_0 e925
              refine ops_ex rfl (guard_none rfl) rfl rfl (ex_indexAddr (d := kInt) rfl rfl rfl Tryd.underlying22 tsz2 hp0_0 (idx_lo e925) (idx_hi e925)) ?_
              refine ops_ex rfl (guard_none rfl) rfl rfl (ex_load1 rfl rfl Tryd.underlying2 rfl ((HM.at_ hc926) 0 _ rfl)) ?_
              refine ops_ex rfl (guard_none rfl) rfl rfl (ex_assign rfl rfl) ?_
              refine ops_ex rfl (guard_none rfl) rfl rfl (ex_assign rfl rfl) ?_
              refine ops_nil ?_
              refine at_then ?_
              refine run_seq ?_
              refine run_seq ?_
              obtain ⟨t930, h931, ho888⟩ := bind_some ho888
              refine run_region rfl ?_
              refine ops_ex rfl (guard_none rfl) rfl rfl (ex_move rfl rfl) ?_
              refine ops_does rfl (guard_none rfl) rfl rfl (does_callk rfl callok39 rfl (impl_isId.calls (x0 := (gt x0.fTxs a905)) h931)) ?_
              rintro _ w932 ⟨rfl, hn⟩
              replace HM : Mem w [] w932 [box b807 38 [.int .i64 x0.fPrev, .int .i64 x0.fHeight, .int .i64 x0.fMiner, p0_0]] := HM.call hn
              refine ops_ex rfl (guard_none rfl) rfl rfl (ex_not rfl rfl) ?_
              refine ops_nil ?_
              refine at_then ?_
              refine run_cond (b := !t930) rfl (fun hb933 => ?_) (fun hb933 => ?_)
              · replace ho888 := cond_t hb933 ho888
                refine run_seq ?_
                refine run_region rfl ?_
                refine ops_ex rfl (guard_none rfl) rfl rfl (ex_assign rfl rfl) ?_
                refine ops_nil ?_
                refine at_then ?_
                refine run_ret ?_
                refine at_then_ret ?_
                refine at_block_ret ?_
                refine at_then_ret ?_
                refine at_then_ret ?_
                refine at_block_ret ?_
                refine at_then_ret ?_
                replace HM := (HM.front 0 rfl rfl).drop
                have hR := Option.some.inj ho888
                subst hR
                have hT := thn_inl H
                have hR := Option.some.inj hT
                subst hR
                exact at_ret1 rfl rfl ⟨_, rfl, rfl, HM⟩
              · replace ho888 := cond_f hb933 ho888
                refine run_skip ?_
                refine at_then ?_
                refine run_seq ?_
                obtain ⟨e934, ho888⟩ := chk_some ho888
                obtain ⟨t938, h939, ho888⟩ := bind_some ho888
                refine run_region rfl ?_
                refine ops_ex rfl (guard_none rfl) rfl rfl (ex_fieldAddr (off' := 3) rfl rfl Tryd.underlying38 rfl tsz22 rfl) ?_
                refine ops_ex rfl (guard_none rfl) rfl rfl (ex_load1 rfl rfl Tryd.underlying22 rfl ((HM.box_at 0 rfl) 3 _ rfl)) ?_
                refine ops_ex rfl (guard_none rfl) rfl rfl (ex_move rfl rfl) ?_
                refine ops_exE rfl (guard_none rfl) rfl rfl (ex_cutH kInt rfl rfl rfl Tryd.underlying22 tsz2 hp0_0 e934) ?_
                rintro u935 hr937
                refine ops_ex rfl (guard_none rfl) rfl rfl (ex_move rfl rfl) ?_
                refine ops_does rfl (guard_none rfl) rfl rfl (does_callk rfl callok40 rfl (slices_Contains_int64.calls (x0 := x0.fTxs.take (a905).toNat) (x1 := (gt x0.fTxs a905)) (HM.rd hr937) h939)) ?_
                rintro _ w940 ⟨rfl, hn⟩
                replace HM : Mem w [] w940 [box b807 38 [.int .i64 x0.fPrev, .int .i64 x0.fHeight, .int .i64 x0.fMiner, p0_0]] := HM.call hn
                refine ops_nil ?_
                refine at_then ?_
                refine run_cond (b := t938) rfl (fun hb941 => ?_) (fun hb941 => ?_)
                · replace ho888 := cond_t hb941 ho888
                  refine run_seq ?_
                  refine run_region rfl ?_
                  refine ops_ex rfl (guard_none rfl) rfl rfl (ex_assign rfl rfl) ?_
                  refine ops_nil ?_
                  refine at_then ?_
                  refine run_ret ?_
                  refine at_block_ret ?_
                  refine at_then_ret ?_
                  refine at_then_ret ?_
                  refine at_block_ret ?_
                  refine at_then_ret ?_
                  replace HM := (HM.front 0 rfl rfl).drop
                  have hR := Option.some.inj ho888
                  subst hR
                  have hT := thn_inl H
                  have hR := Option.some.inj hT
                  subst hR
                  exact at_ret1 rfl rfl ⟨_, rfl, rfl, HM⟩
                · replace ho888 := cond_f hb941 ho888
                  refine run_skip ?_
                  refine at_block ?_
                  refine at_then ?_
                  refine run_region rfl ?_
                  refine ops_ex rfl (guard_none rfl) rfl rfl (ex_add rfl rfl rfl) ?_
                  refine ops_ex rfl (guard_none rfl) rfl rfl (ex_move rfl rfl) ?_
                  refine ops_nil ?_
                  exact at_again k922 (ρ1 := [(1, .pointer (some ⟨b807, 0, none⟩)), (36, p0_0), (37, .int .i64 (x0.fTxs.length : Int)), (38, .int .i64 (wrap64 (a905 + 1)))]) (Nat.lt_succ_self _) ⟨_, ho888, rfl, HM⟩ (Sub.cons rfl (Sub.cons rfl (Sub.cons rfl (Sub.cons rfl Sub.nil))))
            · replace ho888 := cond_f hb924 ho888
              refine run_exit ?_
              refine at_then_exit ?_
              refine at_then_exit ?_
              refine at_block_exit ?_
              replace HM := (HM.front 0 rfl rfl).drop
              exact at_mid (ρ' := []) ⟨(Option.some.inj ho888), rfl, HM⟩ Sub.nil
          · rintro _ w942 ⟨rfl, rfl, HM⟩
            replace H := (thn_inr H)
            refine run_seq ?_
            refine run_region rfl ?_
            refine ops_ex rfl (guard_none rfl) rfl rfl (ex_assign rfl rfl) ?_
            refine ops_nil ?_
            refine at_then ?_
            refine run_ret ?_
            have hR := Option.some.inj H
            subst hR
            exact at_ret1 rfl rfl ⟨_, rfl, rfl, HM⟩

def strconv_FormatInt.f (k : Nat) (x0 : Int) (x1 : Int) : Option ByteArray := (chk ((decide (-9223372036854775808 ≤ x0) && decide (x0 ≤ 9223372036854775807)) && (x1 == 10)) (some (⟨(Lib.itoa x0).toArray⟩ : ByteArray)))
theorem strconv_FormatInt.calls {k : Nat} {x0 x1 : Int} {w : World} (htab : Tab w) {r : ByteArray} (H : strconv_FormatInt.f k x0 x1 = some r) :
    Calls Tryd.prog 43 ([.int .i64 x0, .int .i64 x1] : List Value).toArray w (fun e w_ => ∃ v, e = .returned v ∧ v = (.string r) ∧ Mem w [] w_ []) := by
  obtain ⟨h, H⟩ := chk_some H
  have hR := Option.some.inj H
  subst hR
  simp only [Bool.and_eq_true, decide_eq_true_eq, beq_iff_eq] at h
  obtain ⟨⟨h0, h1⟩, rfl⟩ := h
  exact (Tryd.strconv_FormatInt_10 x0 h0 h1 w htab).mono fun e w_ ⟨he, k, os, hw⟩ => ⟨_, he, rfl, hw ▸ mem_grow w k os⟩

def impl_dec.f (k : Nat) (x0 : Int) : Option ByteArray := ((strconv_FormatInt.f k x0 10).bind fun t958 => some t958)
theorem impl_dec.calls {k : Nat} {x0 : Int}  {w : World} (htab : Tab w)  {r : ByteArray} (H : impl_dec.f k x0 = some r) :
    Calls Tryd.prog 35 ([.int .i64 x0] : List Value).toArray w (fun e w_ => ∃ v, e = .returned v ∧ v = (.string r) ∧ Mem w [] w_ []) := by
  have HM := Mem.start w
  refine calls_run (N := 5) Tryd.func35 rfl rfl rfl rfl ?_
  unfold impl_dec.f at H
  refine run_seq ?_
  refine run_region rfl ?_
  refine ops_ex rfl (guard_none rfl) rfl rfl (ex_assign rfl rfl) ?_
  refine ops_nil ?_
  refine at_then ?_
  refine run_seq ?_
  obtain ⟨t958, h959, H⟩ := bind_some H
  refine run_region rfl ?_
  refine ops_ex rfl (guard_none rfl) rfl rfl (ex_move rfl rfl) ?_
  refine ops_does rfl (guard_none rfl) rfl rfl (does_callk rfl callok43 rfl (strconv_FormatInt.calls (x0 := x0) (x1 := 10) (HM.tab htab) h959)) ?_
  rintro _ w960 ⟨rfl, hn⟩
  replace HM : Mem w [] w960 [] := HM.call hn
  refine ops_ex rfl (guard_none rfl) rfl rfl (ex_assign rfl rfl) ?_
  refine ops_nil ?_
  refine at_then ?_
  refine run_ret ?_
  have hR := Option.some.inj H
  subst hR
  exact at_ret1 rfl rfl ⟨_, rfl, rfl, HM⟩

def strings_Join.f (k : Nat) (x0 : List ByteArray) (x1 : ByteArray) : Option ByteArray := (chk (leB x0.length 140737488355328 && leB (Lib.join (x0.map (·.data.toList)) x1.data.toList).length 140737488355328) (some (⟨(Lib.join (x0.map (·.data.toList)) x1.data.toList).toArray⟩ : ByteArray)))
theorem strings_Join.calls {k : Nat} {x0 : List ByteArray} {x1 : ByteArray} {p0 : Value} {w : World} (hp0 : RdS kStr w p0 x0) {r : ByteArray} (H : strings_Join.f k x0 x1 = some r) :
    Calls Tryd.prog 44 ([p0, .string x1] : List Value).toArray w (fun e w_ => ∃ v, e = .returned v ∧ v = (.string r) ∧ Mem w [] w_ []) := by
  obtain ⟨h, H⟩ := chk_some H
  have hR := Option.some.inj H
  subst hR
  rw [Bool.and_eq_true] at h
  have hm : ∀ w_, Below w.heap.size w w_ → Mem w [] w_ [] := fun w_ hb => ⟨Fr.of_below hb, [], .nil, List.nodup_nil, by simp⟩
  obtain ⟨A, c, rfl, hc, hA⟩ := hp0
  rcases hA with rfl | ⟨b, o, rfl, hA⟩
  · exact (Tryd.strings_Join_none A c x1 w).mono fun e w_ ⟨he, hw⟩ => ⟨_, he, rfl, hm _ (hw ▸ Below.refl _ _)⟩
  · cases hx : x0 with
    | nil => subst hx; exact (Tryd.strings_Join_none _ c x1 w).mono fun e w_ ⟨he, hw⟩ => ⟨_, he, rfl, hm _ (hw ▸ Below.refl _ _)⟩
    | cons a l =>
      rw [← hx]
      have hcell : ∀ (j : Nat) x, x0[j]? = some x → w.cell? ⟨b, o + j, none⟩ = some (.string x) := fun j x hj => by
        obtain ⟨hlt, e1⟩ := List.getElem?_eq_some_iff.1 hj
        obtain ⟨cs, h2, h3⟩ := hA j hlt
        have h2' : cs = [Value.string x0[j]] := h2
        subst h2'
        have h4 : w.cell? ⟨b, o + j * 1 + 0, none⟩ = some (.string x0[j]) := h3 0 _ rfl
        rw [e1] at h4
        simpa using h4
      exact (Tryd.strings_Join b o c x0 x1 w hcell (World.block_lt_of_cell? w _ (hcell 0 a (by rw [hx]; rfl))) (leB_le h.1) hc (leB_le h.2)).mono fun e w_ ⟨he, hw⟩ => ⟨_, he, rfl, hm _ hw⟩

def impl_joined.l0 (x0 : List Int) : Nat → (List ByteArray) → Int → Option ((List ByteArray))
  | 0, _, _ => none
  | k + 1, a1060, a1062 => (bif (decide (a1062 < (x0.length : Int))) then (chk (idxOk a1062 x0.length) ((impl_dec.f k (gt x0 a1062)).bind fun t1079 => (chk (leB ((a1060.length + ([t1079] : List ByteArray).length) * 16) 140737488355328) (impl_joined.l0 x0 k (a1060 ++ ([t1079] : List ByteArray)) (wrap64 (a1062 + 1)))))) else some a1060)
theorem impl_joined.l0_z (x0 : List Int) (a1060 : List ByteArray) (a1062 : Int) : impl_joined.l0 x0 0 a1060 a1062 = none := rfl
theorem impl_joined.l0_s (x0 : List Int) (k : Nat) (a1060 : List ByteArray) (a1062 : Int) : impl_joined.l0 x0 (k + 1) a1060 a1062 = (bif (decide (a1062 < (x0.length : Int))) then (chk (idxOk a1062 x0.length) ((impl_dec.f k (gt x0 a1062)).bind fun t1079 => (chk (leB ((a1060.length + ([t1079] : List ByteArray).length) * 16) 140737488355328) (impl_joined.l0 x0 k (a1060 ++ ([t1079] : List ByteArray)) (wrap64 (a1062 + 1)))))) else some a1060) := rfl
def impl_joined.f (k : Nat) (x0 : List Int) (x1 : ByteArray) : Option ByteArray := ((impl_joined.l0 x0 k ([] : List ByteArray) 0).bind (fun a1044 => ((strings_Join.f k a1044 x1).bind fun t1091 => some t1091)))
theorem impl_joined.calls {k : Nat} {x0 : List Int} {x1 : ByteArray} {p0 : Value} {w : World} (htab : Tab w) (hp0 : RdS kInt w p0 x0) {r : ByteArray} (H : impl_joined.f k x0 x1 = some r) :
    Calls Tryd.prog 36 ([p0, .string x1] : List Value).toArray w (fun e w_ => ∃ v, e = .returned v ∧ v = (.string r) ∧ Mem w [] w_ []) := by
  have HM := Mem.start w
  refine calls_run (N := 24) Tryd.func36 rfl rfl rfl rfl ?_
  unfold impl_joined.f at H
  refine run_seq ?_
  refine run_region rfl ?_
  refine ops_ex rfl (guard_none rfl) rfl rfl (ex_assign rfl rfl) ?_
  refine ops_nil ?_
  refine at_then ?_
  refine run_seq ?_
  refine run_region rfl ?_
  refine ops_does rfl (guard_none rfl) rfl rfl (does_lit (e := 9) (cs := []) (xs := ([] : List ByteArray)) kStr rfl rfl (fun _ => by kernel_rfl) rfl rfl (fun _ _ h => by have h' : _ = [] := h; subst h'; exact .nil) HM.emp) ?_
  rintro v1002 w1005 HM
  refine ops_ex rfl (guard_none rfl) rfl rfl (ex_assign rfl rfl) ?_
  refine ops_nil ?_
  refine at_then ?_
  obtain ⟨o1046, ho1047, H⟩ := bind_some H
  refine run_mid (fun ρ_ w_ => ∃ v1043 : Value, ∃ a1044 : List ByteArray, a1044 = o1046 ∧ ρ_ = [(1, .string x1), (5, v1043)] ∧ Mem w [] w_ [own kStr 9 v1043 a1044]) ?_ ?_
  · clear H
    refine run_seq ?_
    refine run_region rfl ?_
    refine ops_ex rfl (guard_none rfl) rfl rfl (ex_move rfl rfl) ?_
    refine ops_ex rfl (guard_none rfl) rfl rfl (ex_len (d := kInt) (xs := x0) rfl rfl Tryd.underlying22 hp0) ?_
    refine ops_ex rfl (guard_none rfl) rfl rfl (ex_move rfl rfl) ?_
    refine ops_nil ?_
    refine at_then ?_
    refine run_block ?_
    refine run_loop (fun k_ ρ_ w_ => ∃ v1059 : Value, ∃ a1060 : List ByteArray, ∃ a1062 : Int, impl_joined.l0 x0 k_ a1060 a1062 = some o1046 ∧ ρ_ = [(1, .string x1), (5, v1059), (9, p0), (10, .int .i64 (x0.length : Int)), (11, .int .i64 a1062)] ∧ Mem w [] w_ [own kStr 9 v1059 a1060]) k (ρ1 := [(1, .string x1), (5, v1002), (9, p0), (10, .int .i64 (x0.length : Int)), (11, .int .i64 0)]) ⟨_, _, _, ho1047, rfl, HM⟩ (Sub.cons rfl (Sub.cons rfl (Sub.cons rfl (Sub.cons rfl (Sub.cons rfl Sub.nil))))) ?_
    clear HM ho1047
    rintro k1074 _ w1075 ⟨v1059, a1060, a1062, ho1047, rfl, HM⟩
    obtain _ | k1074 := k1074
    · exact nomatch ((impl_joined.l0_z x0 a1060 a1062).symm.trans ho1047)
    replace ho1047 := (impl_joined.l0_s x0 k1074 a1060 a1062).symm.trans ho1047
    refine run_seq ?_
    refine run_region rfl ?_
    refine ops_ex rfl (guard_none rfl) rfl rfl (ex_lss rfl rfl rfl) ?_
    refine ops_nil ?_
    refine at_then ?_
    refine run_seq ?_
    refine run_cond (b := (decide (a1062 < (x0.length : Int)))) rfl (fun hb1076 => ?_) (fun hb1076 => ?_)
    · replace ho1047 := cond_t hb1076 ho1047
      refine run_skip ?_
      refine at_then ?_
      refine run_seq ?_
      refine run_block ?_
      refine run_seq ?_
      obtain ⟨e1077, ho1047⟩ := chk_some ho1047
      refine run_region rfl ?_
      have hc1078 : CellsAt _ (sb p0) (so p0 + (a1062).toNat * 1) [(.int .i64 (gt x0 a1062))] := rd_plain hp0 e1077
      refine ops_ex rfl (guard_none rfl) rfl rfl (ex_indexAddr (d := kInt) rfl rfl rfl Tryd.underlying22 tsz2 hp0 (idx_lo e1077) (idx_hi e1077)) ?_
      refine ops_ex rfl (guard_none rfl) rfl rfl (ex_load1 rfl rfl Tryd.underlying2 rfl ((HM.at_ hc1078) 0 _ rfl)) ?_
      refine ops_ex rfl (guard_none rfl) rfl rfl (ex_assign rfl rfl) ?_
      refine ops_nil ?_
      refine at_then ?_
      obtain ⟨t1079, h1080, ho1047⟩ := bind_some ho1047
      obtain ⟨e1084, ho1047⟩ := chk_some ho1047
      refine run_region rfl ?_
      refine ops_ex rfl (guard_none rfl) rfl rfl (ex_move rfl rfl) ?_
      refine ops_ex rfl (guard_none rfl) rfl rfl (ex_move rfl rfl) ?_
      refine ops_does rfl (guard_none rfl) rfl rfl (does_callk rfl callok35 rfl (impl_dec.calls (x0 := (gt x0 a1062)) (HM.tab htab) h1080)) ?_
      rintro _ w1087 ⟨rfl, hn⟩
      replace HM : Mem w [] w1087 [own kStr 9 v1059 a1060] := HM.call hn
      refine ops_does rfl (guard_none rfl) rfl rfl (does_lit (e := 9) (cs := [.string t1079]) (xs := ([t1079] : List ByteArray)) kStr rfl rfl (fun _ => by kernel_rfl) rfl rfl (fun _ _ h => by have h' : _ = [] := h; subst h'; exact (Elems.cons (d := kStr) (f := []) ⟨rfl, rfl⟩ .nil)) HM.emp) ?_
      rintro v1081 w1088 HM
      replace HM := HM.front 1 rfl rfl
      refine ops_does rfl (guard_none rfl) rfl rfl (does_appendR kStr flat_plain rfl rfl rfl Tryd.underlying64 tsz9 rfl tby9 tz9 rfl rfl (leB_le e1084) (HM.own_rd 1 rfl) HM) ?_
      rintro v1085 w1089 HM
      refine ops_ex rfl (guard_none rfl) rfl rfl (ex_assign rfl rfl) ?_
      refine ops_nil ?_
      refine at_block ?_
      refine at_then ?_
      refine run_region rfl ?_
      refine ops_ex rfl (guard_none rfl) rfl rfl (ex_add rfl rfl rfl) ?_
      refine ops_ex rfl (guard_none rfl) rfl rfl (ex_move rfl rfl) ?_
      refine ops_nil ?_
      replace HM := (HM.front 1 rfl rfl).drop
      exact at_again k1074 (ρ1 := [(1, .string x1), (5, v1085), (9, p0), (10, .int .i64 (x0.length : Int)), (11, .int .i64 (wrap64 (a1062 + 1)))]) (Nat.lt_succ_self _) ⟨_, _, _, ho1047, rfl, HM⟩ (Sub.cons rfl (Sub.cons rfl (Sub.cons rfl (Sub.cons rfl (Sub.cons rfl Sub.nil)))))
    · replace ho1047 := cond_f hb1076 ho1047
      refine run_exit ?_
      refine at_then_exit ?_
      refine at_then_exit ?_
      refine at_block_exit ?_
      exact at_mid (ρ' := [(1, .string x1), (5, v1059)]) ⟨_, _, (Option.some.inj ho1047), rfl, HM⟩ (Sub.cons rfl (Sub.cons rfl Sub.nil))
  · rintro _ w1090 ⟨v1043, a1044, rfl, rfl, HM⟩
    refine run_seq ?_
    obtain ⟨t1091, h1092, H⟩ := bind_some H
    refine run_region rfl ?_
    refine ops_ex rfl (guard_none rfl) rfl rfl (ex_move rfl rfl) ?_
    refine ops_ex rfl (guard_none rfl) rfl rfl (ex_move rfl rfl) ?_
    refine ops_does rfl (guard_none rfl) rfl rfl (does_callk rfl callok44 rfl (strings_Join.calls (x0 := a1044) (x1 := x1) (HM.own_rd 0 rfl) h1092)) ?_
    rintro _ w1093 ⟨rfl, hn⟩
    replace HM : Mem w [] w1093 [own kStr 9 v1043 a1044] := HM.call hn
    refine ops_ex rfl (guard_none rfl) rfl rfl (ex_assign rfl rfl) ?_
    refine ops_nil ?_
    refine at_then ?_
    refine run_ret ?_
    replace HM := (HM.front 0 rfl rfl).drop
    have hR := Option.some.inj H
    subst hR
    exact at_ret1 rfl rfl ⟨_, rfl, rfl, HM⟩
end Go.Proofs.YtdhkcglfeiapoaaDoor.Zk
