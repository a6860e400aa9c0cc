/- What functions of the program compute, each as a plain function, and that they do. Conditions: as each theorem states them. -/
import Derived.Test.YtcamddjlhchkfaaGreatSpendTxZkF7
namespace Go.Proofs.YtcamddjlhchkfaaGreat.Zk
open Go Go.RowKit Go.IntWalk Go.Proofs
set_option linter.unusedVariables false
set_option linter.unusedSimpArgs false
set_option maxRecDepth 100000
set_option maxHeartbeats 4000000
def impl_hasTx.f (k : Nat) (x0 : List Coin) (x1 : Int) : Option Bool := ((slices_ContainsFunc_impl_Coin.f k x0 x1).bind fun t5654 => some t5654)
theorem impl_hasTx.calls {k : Nat} {x0 : List Coin} {x1 : Int} {p0 : Value} {w : World} (hp0 : RdS kCoin w p0 x0) {r : Bool} (H : impl_hasTx.f k x0 x1 = some r) :
    Calls Tryz.prog 98 ([p0, .int .i64 x1] : List Value).toArray w (fun e w_ => ∃ v, e = .returned v ∧ v = (.bool r) ∧ Mem w [] w_ []) := by
  have HM := Mem.start w
  refine calls_run (N := 8) Tryz.func98 rfl rfl rfl rfl ?_
  unfold impl_hasTx.f at H
  refine run_seq ?_
  refine run_region rfl ?_
  refine ops_does rfl (guard_none rfl) rfl rfl (does_box (cs := [.int .i64 x1]) rfl rfl rfl HM) ?_
  rintro _ w5653 ⟨b5650, rfl, HM⟩
  refine ops_ex rfl (guard_none rfl) rfl rfl (ex_assign rfl rfl) ?_
  refine ops_nil ?_
  refine at_then ?_
  refine run_seq ?_
  obtain ⟨t5654, h5655, H⟩ := bind_some H
  refine run_region rfl ?_
  refine ops_ex rfl (guard_none rfl) rfl rfl (ex_move rfl rfl) ?_
  refine ops_ex rfl (guard_none rfl) rfl rfl (ex_func rfl rfl) ?_
  refine ops_does rfl (guard_none rfl) rfl rfl (does_callk rfl callok122 rfl (slices_ContainsFunc_impl_Coin.calls (x0 := x0) (x1_0 := x1) (HM.rd hp0) (HM.box_at 0 rfl) h5655)) ?_
  rintro _ w5656 ⟨rfl, hn⟩
  replace HM : Mem w [] w5656 [box b5650 2 [.int .i64 x1]] := HM.call hn
  refine ops_ex rfl (guard_none rfl) rfl rfl (ex_assign rfl rfl) ?_
  refine ops_nil ?_
  refine at_then ?_
  refine run_ret ?_
  replace HM := (HM.front 0 rfl rfl).drop
  have hR := Option.some.inj H
  subst hR
  exact at_ret1 rfl rfl ⟨_, rfl, rfl, HM⟩

def slices_Delete_impl_Coin.f (k : Nat) (x0 : List Coin) (x1 : Int) (x2 : Int) : Option ((List Coin)) := (chk (cutOk x2 x0.length) (chk (cutOk x1 (x2).toNat) (bif (x1 == x2) then some x0 else (chk (cutOk x1 x0.length) (chk (cutOk x2 x0.length) (chk (cutOk x1 (x2).toNat) (chk (decide (x1 < x2)) (chk (decide (((x0.take (x1).toNat ++ x0.drop (x2).toNat).length : Int) ≤ (x0.length : Int))) (some (x0.take (x1).toNat ++ x0.drop (x2).toNat))))))))))
theorem slices_Delete_impl_Coin.calls {k : Nat} {x0 : List Coin} {x1 : Int} {x2 : Int} {p0 : Value} {w wo : World} {X : List Nat} (hwo : Olds wo w X) (hX : Hold w [own kCoin 77 p0 x0] X) (hXn : X.Nodup) (hXl : ∀ b ∈ X, b < w.heap.size)  {r : (List Coin)} (H : slices_Delete_impl_Coin.f k x0 x1 x2 = some r) :
    Calls Tryz.prog 129 ([p0, .int .i64 x1, .int .i64 x2] : List Value).toArray w (fun e w_ => ∃ v, e = .returned v ∧ ∃ u0 : Value, v = u0 ∧ Mem w X w_ [own kCoin 77 u0 r]) := by
  have HM := Mem.startX hX hXn hXl
  refine calls_run (N := 33) Tryz.func129 rfl rfl rfl rfl ?_
  unfold slices_Delete_impl_Coin.f at H
  refine run_seq ?_
  refine run_region rfl ?_
  refine ops_ex rfl (guard_none rfl) rfl rfl (ex_assign rfl rfl) ?_
  refine ops_nil ?_
  refine at_then ?_
  refine run_seq ?_
  obtain ⟨e5690, H⟩ := chk_some H
  obtain ⟨e5691, H⟩ := chk_some H
  refine run_region rfl ?_
  refine ops_ex rfl (guard_none rfl) rfl rfl (ex_move rfl rfl) ?_
  refine ops_ex rfl (guard_none rfl) rfl rfl (ex_move rfl rfl) ?_
  refine ops_ex rfl (guard_none rfl) rfl rfl (ex_move rfl rfl) ?_
  refine ops_ex rfl (guard_none rfl) rfl rfl (ex_move rfl rfl) ?_
  refine ops_ex rfl (guard_none rfl) rfl rfl (ex_len (d := kCoin) (xs := x0) rfl rfl Tryz.underlying29 (HM.own_rd 0 rfl)) ?_
  refine ops_exE rfl (guard_none rfl) rfl rfl (ex_cut3 rfl rfl rfl rfl rfl Tryz.underlying29 tsz77 (cut_lo e5691) (cut_lt2 e5691 e5690) (cut_le2 e5690) ((HM.own_rd 0 rfl).cap.le (Nat.le_refl _))) ?_
  rintro _ _
  refine ops_nil ?_
  refine at_then ?_
  refine run_seq ?_
  refine run_seq ?_
  refine run_region rfl ?_
  refine ops_ex rfl (guard_none rfl) rfl rfl (ex_move rfl rfl) ?_
  refine ops_ex rfl (guard_none rfl) rfl rfl (ex_move rfl rfl) ?_
  refine ops_ex rfl (guard_none rfl) rfl rfl (ex_eql rfl rfl rfl) ?_
  refine ops_nil ?_
  refine at_then ?_
  refine run_cond (b := (x1 == x2)) rfl (fun hb5693 => ?_) (fun hb5693 => ?_)
  · replace H := cond_t hb5693 H
    refine run_seq ?_
    refine run_region rfl ?_
    refine ops_ex rfl (guard_none rfl) rfl rfl (ex_move rfl rfl) ?_
    refine ops_ex rfl (guard_none rfl) rfl rfl (ex_assign rfl rfl) ?_
    refine ops_nil ?_
    refine at_then ?_
    refine run_ret ?_
    refine at_then_ret ?_
    have hR := Option.some.inj H
    subst hR
    exact at_ret1 rfl rfl ⟨_, rfl, _, rfl, HM⟩
  · replace H := cond_f hb5693 H
    refine run_skip ?_
    refine at_then ?_
    refine run_seq ?_
    refine run_region rfl ?_
    refine ops_ex rfl (guard_none rfl) rfl rfl (ex_move rfl rfl) ?_
    refine ops_ex rfl (guard_none rfl) rfl rfl (ex_len (d := kCoin) (xs := x0) rfl rfl Tryz.underlying29 (HM.own_rd 0 rfl)) ?_
    refine ops_ex rfl (guard_none rfl) rfl rfl (ex_assign rfl rfl) ?_
    refine ops_nil ?_
    refine at_then ?_
    refine run_seq ?_
    obtain ⟨e5694, H⟩ := chk_some H
    obtain ⟨e5695, H⟩ := chk_some H
    obtain ⟨e5696, H⟩ := chk_some H
    obtain ⟨e5697, H⟩ := chk_some H
    refine run_drawf (fun w_ => Mem w X w_ []) [(0, true), (1, true), (2, true), (3, true), (4, true), (5, true), (6, false), (7, true)] mixed rfl rfl (by kernel_rfl) ?_
    replace HM := HM.grow (fr_drew _)
    have hS := Mem.suf (M := [own kCoin 77 p0 x0]) HM
    refine drwp_take rfl (guard_none rfl) rfl rfl (fun w_ hS_ => (ex_move rfl rfl)) hS ?_
    refine drwp_take rfl (guard_none rfl) rfl rfl (fun w_ hS_ => (ex_move rfl rfl)) hS ?_
    refine drwp_take rfl (guard_none rfl) rfl rfl (fun w_ hS_ => (ex_cutvH rfl rfl rfl Tryz.underlying29 tsz77 (cut_lo e5694) ((HM.own_rd 0 rfl).cap.le (cut_hi e5694)))) hS ?_
    refine drwp_take rfl (guard_none rfl) rfl rfl (fun w_ hS_ => (ex_move rfl rfl)) hS ?_
    refine drwp_take rfl (guard_none rfl) rfl rfl (fun w_ hS_ => (ex_move rfl rfl)) hS ?_
    refine drwp_take rfl (guard_none rfl) rfl rfl (fun w_ hS_ => (ex_cutvL rfl rfl rfl Tryz.underlying29 tsz77 (HM.own_rd 0 rfl) e5695)) hS ?_
    refine drwp_one rfl (guard_none rfl) rfl rfl (does_delApp (i := (x1).toNat) (j := (x2).toNat) kCoin rfl rfl rfl Tryz.underlying29 tsz77 (lt_nat e5696 e5697) (cut_hi e5695) HM) ?_
    rintro v5698 w5701 ⟨hcap5700, HM⟩
    refine ⟨Mem.suf (M := [own kCoin 77 v5698 (x0.take (x1).toNat ++ x0.drop (x2).toNat)]) HM, ?_⟩
    have hS := Mem.suf (M := [own kCoin 77 v5698 (x0.take (x1).toNat ++ x0.drop (x2).toNat)]) HM
    refine drwp_take rfl (guard_none rfl) rfl rfl (fun w_ hS_ => (ex_assign rfl rfl)) hS ?_
    refine drwp_done ?_
    refine at_then ?_
    refine run_seq ?_
    obtain ⟨e5702, H⟩ := chk_some H
    refine run_region rfl ?_
    refine ops_ex rfl (guard_none rfl) rfl rfl (ex_move rfl rfl) ?_
    refine ops_ex rfl (guard_none rfl) rfl rfl (ex_move rfl rfl) ?_
    refine ops_ex rfl (guard_none rfl) rfl rfl (ex_len (d := kCoin) (xs := x0.take (x1).toNat ++ x0.drop (x2).toNat) rfl rfl Tryz.underlying29 (HM.own_rd 0 rfl)) ?_
    refine ops_ex rfl (guard_none rfl) rfl rfl (ex_move rfl rfl) ?_
    refine ops_ex rfl (guard_none rfl) rfl rfl (ex_cutvLH rfl rfl rfl rfl Tryz.underlying29 tsz77 (Int.natCast_nonneg _) (of_decide_eq_true e5702) hcap5700) ?_
    refine ops_doesN rfl (guard_none rfl) rfl (does_clear (n := x0.length) kCoin rfl rfl Tryz.underlying29 tsz77 tz77 rfl rfl (onesC rfl (onesC rfl (onesC rfl (onesC rfl (onesC rfl (onesC rfl (onesC rfl (onesC rfl onesN)))))))) (Int.ofNat_le.1 (of_decide_eq_true e5702)) hcap5700 HM) ?_
    rintro _ w5703 HM
    refine ops_nil ?_
    refine at_then ?_
    refine run_seq ?_
    refine run_region rfl ?_
    refine ops_ex rfl (guard_none rfl) rfl rfl (ex_move rfl rfl) ?_
    refine ops_ex rfl (guard_none rfl) rfl rfl (ex_assign rfl rfl) ?_
    refine ops_nil ?_
    refine at_then ?_
    refine run_ret ?_
    have hR := Option.some.inj H
    subst hR
    exact at_ret1 rfl rfl ⟨_, rfl, _, rfl, HM⟩

def impl_takeCoins.l0 (x1 : List Ref) : Nat → (List Coin) → Int → Option (((List Coin) × Int) ⊕ ((List Coin)))
  | 0, _, _ => none
  | k + 1, a5858, a5860 => (bif (decide (a5860 < (x1.length : Int))) then (chk (idxOk a5860 x1.length) ((impl_findCoin.f k a5858 (gt x1 a5860)).bind fun t5891 => (bif !t5891.2 then some (.inl (([] : List Coin), 4)) else ((slices_Delete_impl_Coin.f k a5858 t5891.1 (wrap64 (t5891.1 + 1))).bind fun t5897 => impl_takeCoins.l0 x1 k t5897 (wrap64 (a5860 + 1)))))) else some (.inr a5858))
theorem impl_takeCoins.l0_z (x1 : List Ref) (a5858 : List Coin) (a5860 : Int) : impl_takeCoins.l0 x1 0 a5858 a5860 = none := rfl
theorem impl_takeCoins.l0_s (x1 : List Ref) (k : Nat) (a5858 : List Coin) (a5860 : Int) : impl_takeCoins.l0 x1 (k + 1) a5858 a5860 = (bif (decide (a5860 < (x1.length : Int))) then (chk (idxOk a5860 x1.length) ((impl_findCoin.f k a5858 (gt x1 a5860)).bind fun t5891 => (bif !t5891.2 then some (.inl (([] : List Coin), 4)) else ((slices_Delete_impl_Coin.f k a5858 t5891.1 (wrap64 (t5891.1 + 1))).bind fun t5897 => impl_takeCoins.l0 x1 k t5897 (wrap64 (a5860 + 1)))))) else some (.inr a5858)) := rfl
def impl_takeCoins.f (k : Nat) (x0 : List Coin) (x1 : List Ref) : Option ((List Coin) × Int) := ((impl_ownCoins.f k x0).bind fun t5763 => ((impl_takeCoins.l0 x1 k t5763 0).bind fun o5835 => thn o5835 (fun r => some r) (fun a5833 => some (a5833, 0))))
theorem impl_takeCoins.calls {k : Nat} {x0 : List Coin} {x1 : List Ref} {p0 : Value} {p1 : Value} {w : World} (hp0 : RdS kCoin w p0 x0) (hp1 : RdS kRef w p1 x1) {r : (List Coin) × Int} (H : impl_takeCoins.f k x0 x1 = some r) :
    Calls Tryz.prog 99 ([p0, p1] : List Value).toArray w (fun e w_ => ∃ v, e = .returned v ∧ ∃ u0 : Value, v = (.tuple #[u0, .int .i64 r.2]) ∧ Mem w [] w_ [own kCoin 77 u0 r.1]) := by
  have HM := Mem.start w
  refine calls_run (N := 34) Tryz.func99 rfl rfl rfl rfl ?_
  unfold impl_takeCoins.f at H
  refine run_seq ?_
  refine run_region rfl ?_
  refine ops_ex rfl (guard_none rfl) rfl rfl (ex_assign rfl rfl) ?_
  refine ops_ex rfl (guard_none rfl) rfl rfl (ex_assign rfl rfl) ?_
  refine ops_nil ?_
  refine at_then ?_
  refine run_seq ?_
  obtain ⟨t5763, h5764, H⟩ := bind_some H
  refine run_region rfl ?_
  refine ops_ex rfl (guard_none rfl) rfl rfl (ex_move rfl rfl) ?_
  refine ops_does rfl (guard_none rfl) rfl rfl (does_callk rfl callok61 rfl (impl_ownCoins.calls (x0 := x0) (HM.rd hp0) h5764)) ?_
  rintro u5765 w5767 ⟨_, rfl, hn⟩
  replace HM : Mem w [] w5767 [own kCoin 77 u5765 t5763] := HM.call hn
  refine ops_ex rfl (guard_none rfl) rfl rfl (ex_assign rfl rfl) ?_
  refine ops_nil ?_
  refine at_then ?_
  obtain ⟨o5835, ho5836, H⟩ := bind_some H
  refine run_mid (fun ρ_ w_ => ∃ v5832 : Value, ∃ a5833 : List Coin, Sum.inr a5833 = o5835 ∧ ρ_ = [(6, v5832)] ∧ Mem w [] w_ [own kCoin 77 v5832 a5833]) ?_ ?_
  · skip
    refine run_seq ?_
    refine run_region rfl ?_
    refine ops_ex rfl (guard_none rfl) rfl rfl (ex_move rfl rfl) ?_
    refine ops_ex rfl (guard_none rfl) rfl rfl (ex_len (d := kRef) (xs := x1) rfl rfl Tryz.underlying34 hp1) ?_
    refine ops_ex rfl (guard_none rfl) rfl rfl (ex_move rfl rfl) ?_
    refine ops_nil ?_
    refine at_then ?_
    refine run_block ?_
    refine run_loop (fun k_ ρ_ w_ => ∃ v5857 : Value, ∃ a5858 : List Coin, ∃ a5860 : Int, impl_takeCoins.l0 x1 k_ a5858 a5860 = some o5835 ∧ ρ_ = [(6, v5857), (13, p1), (14, .int .i64 (x1.length : Int)), (15, .int .i64 a5860)] ∧ Mem w [] w_ [own kCoin 77 v5857 a5858]) k (ρ1 := [(6, u5765), (13, p1), (14, .int .i64 (x1.length : Int)), (15, .int .i64 0)]) ⟨_, _, _, ho5836, rfl, HM⟩ (Sub.cons rfl (Sub.cons rfl (Sub.cons rfl (Sub.cons rfl Sub.nil)))) ?_
    clear HM ho5836
    rintro k5881 _ w5882 ⟨v5857, a5858, a5860, ho5836, rfl, HM⟩
    obtain _ | k5881 := k5881
    · exact nomatch ((impl_takeCoins.l0_z x1 a5858 a5860).symm.trans ho5836)
    replace ho5836 := (impl_takeCoins.l0_s x1 k5881 a5858 a5860).symm.trans ho5836
    refine run_seq ?_
    refine run_region rfl ?_
    refine ops_ex rfl (guard_none rfl) rfl rfl (ex_lss rfl rfl rfl) ?_
    refine ops_nil ?_
    refine at_then ?_
    refine run_seq ?_
    refine run_cond (b := (decide (a5860 < (x1.length : Int)))) rfl (fun hb5883 => ?_) (fun hb5883 => ?_)
    · replace ho5836 := cond_t hb5883 ho5836
      refine run_skip ?_
      refine at_then ?_
      refine run_seq ?_
      refine run_block ?_
      refine run_seq ?_
      obtain ⟨e5884, ho5836⟩ := chk_some ho5836
      refine run_region rfl ?_
      have hc5885 : CellsAt _ (sb p1) (so p1 + (a5860).toNat * 2) [(.int .i64 ((gt x1 a5860).fTx)), (.int .i64 ((gt x1 a5860).fAt))] := rd_plain hp1 e5884
      refine ops_ex rfl (guard_none rfl) rfl rfl (ex_indexAddr (d := kRef) rfl rfl rfl Tryz.underlying34 tsz56 hp1 (idx_lo e5884) (idx_hi e5884)) ?_
      refine ops_ex rfl (guard_none rfl) rfl rfl (ex_loadN (cs := [(.int .i64 ((gt x1 a5860).fTx)), (.int .i64 ((gt x1 a5860).fAt))]) rfl rfl Tryz.underlying56 rfl tsz56 rfl ((HM.at_ hc5885).sub 0 2 rfl)) ?_
      refine ops_does rfl (guard_none rfl) rfl rfl (does_alloc (cs := [.int .i64 0, .int .i64 0]) rfl tz56 rfl HM) ?_
      rintro _ w5889 ⟨b5886, rfl, HM⟩
      refine ops_doesS rfl (guard_none rfl) rfl (does_store (vs := [.int .i64 ((gt x1 a5860).fTx), .int .i64 ((gt x1 a5860).fAt)]) (cs' := [.int .i64 ((gt x1 a5860).fTx), .int .i64 ((gt x1 a5860).fAt)]) rfl rfl rfl rfl tsz56 (Ones.int (Ones.int Ones.nil)) rfl rfl HM) ?_
      rintro w5890 HM
      refine ops_nil ?_
      refine at_then ?_
      refine run_seq ?_
      obtain ⟨t5891, h5892, ho5836⟩ := bind_some ho5836
      refine run_region rfl ?_
      refine ops_ex rfl (guard_none rfl) rfl rfl (ex_move rfl rfl) ?_
      refine ops_ex rfl (guard_none rfl) rfl rfl (ex_loadN (cs := [(.int .i64 ((gt x1 a5860).fTx)), (.int .i64 ((gt x1 a5860).fAt))]) rfl rfl Tryz.underlying56 rfl tsz56 rfl ((HM.box_at 0 rfl).sub 0 2 rfl)) ?_
      refine ops_does rfl (guard_none rfl) rfl rfl (does_callk rfl callok60 rfl (impl_findCoin.calls (x0 := a5858) (x1 := (gt x1 a5860)) (HM.own_rd 1 rfl) h5892)) ?_
      rintro _ w5893 ⟨rfl, hn⟩
      replace HM : Mem w [] w5893 [box b5886 56 [.int .i64 ((gt x1 a5860).fTx), .int .i64 ((gt x1 a5860).fAt)], own kCoin 77 v5857 a5858] := HM.call hn
      refine ops_ex rfl (guard_none rfl) rfl rfl (ex_move rfl rfl) ?_
      refine ops_ex rfl (guard_none rfl) rfl rfl (ex_extract rfl rfl rfl) ?_
      refine ops_ex rfl (guard_none rfl) rfl rfl (ex_extract rfl rfl rfl) ?_
      refine ops_ex rfl (guard_none rfl) rfl rfl (ex_assign rfl rfl) ?_
      refine ops_ex rfl (guard_none rfl) rfl rfl (ex_assign rfl rfl) ?_
      refine ops_nil ?_
      refine at_then ?_
      refine run_seq ?_
      refine run_seq ?_
      refine run_region rfl ?_
      refine ops_ex rfl (guard_none rfl) rfl rfl (ex_move rfl rfl) ?_
      refine ops_ex rfl (guard_none rfl) rfl rfl (ex_not rfl rfl) ?_
      refine ops_nil ?_
      refine at_then ?_
      refine run_cond (b := !t5891.2) rfl (fun hb5895 => ?_) (fun hb5895 => ?_)
      · replace ho5836 := cond_t hb5895 ho5836
        refine run_seq ?_
        refine run_region rfl ?_
        refine ops_ex rfl (guard_none rfl) rfl rfl (ex_assign rfl rfl) ?_
        refine ops_ex rfl (guard_none rfl) rfl rfl (ex_assign rfl rfl) ?_
        refine ops_nil ?_
        refine at_then ?_
        refine run_ret ?_
        refine at_then_ret ?_
        refine at_block_ret ?_
        refine at_then_ret ?_
        refine at_then_ret ?_
        refine at_block_ret ?_
        refine at_then_ret ?_
        replace HM := HM.empty kCoin 77 none
        replace HM := (HM.front 1 rfl rfl).drop
        replace HM := (HM.front 1 rfl rfl).drop
        have hR := Option.some.inj ho5836
        subst hR
        have hT := thn_inl H
        have hR := Option.some.inj hT
        subst hR
        exact at_ret2 rfl rfl rfl ⟨_, rfl, _, rfl, HM⟩
      · replace ho5836 := cond_f hb5895 ho5836
        refine run_skip ?_
        refine at_then ?_
        obtain ⟨t5897, h5898, ho5836⟩ := bind_some ho5836
        refine run_region rfl ?_
        refine ops_ex rfl (guard_none rfl) rfl rfl (ex_move rfl rfl) ?_
        refine ops_ex rfl (guard_none rfl) rfl rfl (ex_move rfl rfl) ?_
        refine ops_ex rfl (guard_none rfl) rfl rfl (ex_move rfl rfl) ?_
        refine ops_ex rfl (guard_none rfl) rfl rfl (ex_add rfl rfl rfl) ?_
        replace HM := HM.front 1 rfl rfl
        obtain ⟨F5901, hF5902, hFn5903, hFl5904, HMh5905, hcl5906⟩ := HM.hide (Ms := [own kCoin 77 v5857 a5858])
        refine ops_does rfl (guard_none rfl) rfl rfl (does_callk rfl callok129 rfl (slices_Delete_impl_Coin.calls (x0 := a5858) (x1 := t5891.1) (x2 := wrap64 (t5891.1 + 1)) (hide_olds _ _) hF5902 hFn5903 hFl5904 h5898)) ?_
        rintro u5899 w5907 ⟨_, rfl, hn⟩
        replace HM : Mem w [] w5907 [own kCoin 77 u5899 t5897, box b5886 56 [.int .i64 ((gt x1 a5860).fTx), .int .i64 ((gt x1 a5860).fAt)]] := hcl5906 _ _ hn
        refine ops_ex rfl (guard_none rfl) rfl rfl (ex_assign rfl rfl) ?_
        refine ops_nil ?_
        refine at_block ?_
        refine at_then ?_
        refine run_region rfl ?_
        refine ops_ex rfl (guard_none rfl) rfl rfl (ex_add rfl rfl rfl) ?_
        refine ops_ex rfl (guard_none rfl) rfl rfl (ex_move rfl rfl) ?_
        refine ops_nil ?_
        replace HM := (HM.front 1 rfl rfl).drop
        exact at_again k5881 (ρ1 := [(6, u5899), (13, p1), (14, .int .i64 (x1.length : Int)), (15, .int .i64 (wrap64 (a5860 + 1)))]) (Nat.lt_succ_self _) ⟨_, _, _, ho5836, rfl, HM⟩ (Sub.cons rfl (Sub.cons rfl (Sub.cons rfl (Sub.cons rfl Sub.nil))))
    · replace ho5836 := cond_f hb5883 ho5836
      refine run_exit ?_
      refine at_then_exit ?_
      refine at_then_exit ?_
      refine at_block_exit ?_
      exact at_mid (ρ' := [(6, v5857)]) ⟨_, _, (Option.some.inj ho5836), rfl, HM⟩ (Sub.cons rfl Sub.nil)
  · rintro _ w5908 ⟨v5832, a5833, rfl, rfl, HM⟩
    replace H := (thn_inr H)
    refine run_seq ?_
    refine run_region rfl ?_
    refine ops_ex rfl (guard_none rfl) rfl rfl (ex_move rfl rfl) ?_
    refine ops_ex rfl (guard_none rfl) rfl rfl (ex_assign rfl rfl) ?_
    refine ops_ex rfl (guard_none rfl) rfl rfl (ex_assign rfl rfl) ?_
    refine ops_nil ?_
    refine at_then ?_
    refine run_ret ?_
    have hR := Option.some.inj H
    subst hR
    exact at_ret2 rfl rfl rfl ⟨_, rfl, _, rfl, HM⟩

def impl_putCoins.l0 (x2 : List Out) : Nat → Int → Option (((List Coin) × Int) ⊕ Unit)
  | 0, _ => none
  | k + 1, a6112 => (bif (decide (a6112 < (x2.length : Int))) then (chk (idxOk a6112 x2.length) ((impl_outFault.f k (gt x2 a6112)).bind fun t6136 => (bif (t6136 != 0) then some (.inl (([] : List Coin), t6136)) else impl_putCoins.l0 x2 k (wrap64 (a6112 + 1))))) else some (.inr ()))
theorem impl_putCoins.l0_z (x2 : List Out) (a6112 : Int) : impl_putCoins.l0 x2 0 a6112 = none := rfl
theorem impl_putCoins.l0_s (x2 : List Out) (k : Nat) (a6112 : Int) : impl_putCoins.l0 x2 (k + 1) a6112 = (bif (decide (a6112 < (x2.length : Int))) then (chk (idxOk a6112 x2.length) ((impl_outFault.f k (gt x2 a6112)).bind fun t6136 => (bif (t6136 != 0) then some (.inl (([] : List Coin), t6136)) else impl_putCoins.l0 x2 k (wrap64 (a6112 + 1))))) else some (.inr ())) := rfl
def impl_putCoins.l1 (x1 : Int) (x2 : List Out) (x3 : Int) (x4 : Bool) : Nat → (List Coin) → Int → Option ((List Coin))
  | 0, _, _ => none
  | k + 1, a6240, a6242 => (bif (decide (a6242 < (x2.length : Int))) then (chk (idxOk a6242 x2.length) ((impl_ownOut.f k (gt x2 a6242)).bind fun t6273 => (chk (leB ((a6240.length + ([(⟨(⟨x1, a6242⟩ : Ref), t6273, x3, x4⟩ : Coin)] : List Coin).length) * 80) 140737488355328) (impl_putCoins.l1 x1 x2 x3 x4 k (a6240 ++ ([(⟨(⟨x1, a6242⟩ : Ref), t6273, x3, x4⟩ : Coin)] : List Coin)) (wrap64 (a6242 + 1)))))) else some a6240)
theorem impl_putCoins.l1_z (x1 : Int) (x2 : List Out) (x3 : Int) (x4 : Bool) (a6240 : List Coin) (a6242 : Int) : impl_putCoins.l1 x1 x2 x3 x4 0 a6240 a6242 = none := rfl
theorem impl_putCoins.l1_s (x1 : Int) (x2 : List Out) (x3 : Int) (x4 : Bool) (k : Nat) (a6240 : List Coin) (a6242 : Int) : impl_putCoins.l1 x1 x2 x3 x4 (k + 1) a6240 a6242 = (bif (decide (a6242 < (x2.length : Int))) then (chk (idxOk a6242 x2.length) ((impl_ownOut.f k (gt x2 a6242)).bind fun t6273 => (chk (leB ((a6240.length + ([(⟨(⟨x1, a6242⟩ : Ref), t6273, x3, x4⟩ : Coin)] : List Coin).length) * 80) 140737488355328) (impl_putCoins.l1 x1 x2 x3 x4 k (a6240 ++ ([(⟨(⟨x1, a6242⟩ : Ref), t6273, x3, x4⟩ : Coin)] : List Coin)) (wrap64 (a6242 + 1)))))) else some a6240) := rfl
def impl_putCoins.f (k : Nat) (x0 : List Coin) (x1 : Int) (x2 : List Out) (x3 : Int) (x4 : Bool) : Option ((List Coin) × Int) := ((impl_isId.f k x1).bind fun t6052 => ((bif (!(!t6052)) then impl_isHeight.f k x3 else some default).bind fun t6054 => (bif ((!t6052) || (!t6054)) then some (([] : List Coin), 3) else (bif (decide (4 < (x2.length : Int))) then some (([] : List Coin), 2) else ((impl_putCoins.l0 x2 k 0).bind fun o6099 => thn o6099 (fun r => some r) (fun _ => ((impl_hasTx.f k x0 x1).bind fun t6146 => (bif t6146 then some (([] : List Coin), 7) else (bif (decide (40 < (wrap64 ((x0.length : Int) + (x2.length : Int))))) then some (([] : List Coin), 2) else ((impl_ownCoins.f k x0).bind fun t6153 => ((impl_putCoins.l1 x1 x2 x3 x4 k t6153 0).bind (fun a6217 => ((impl_sorted.f k a6217).bind fun t6287 => some (t6287, 0))))))))))))))
theorem impl_putCoins.calls {k : Nat} {x0 : List Coin} {x1 : Int} {x2 : List Out} {x3 : Int} {x4 : Bool} {p0 : Value} {p2 : Value} {w : World} (hp0 : RdS kCoin w p0 x0) (hp2 : RdS kOut w p2 x2) {r : (List Coin) × Int} (H : impl_putCoins.f k x0 x1 x2 x3 x4 = some r) :
    Calls Tryz.prog 100 ([p0, .int .i64 x1, p2, .int .i64 x3, .bool x4] : List Value).toArray w (fun e w_ => ∃ v, e = .returned v ∧ ∃ u0 : Value, v = (.tuple #[u0, .int .i64 r.2]) ∧ Mem w [] w_ [own kCoin 77 u0 r.1]) := by
  have HM := Mem.start w
  refine calls_run (N := 77) Tryz.func100 rfl rfl rfl rfl ?_
  unfold impl_putCoins.f at H
  refine run_seq ?_
  refine run_region rfl ?_
  refine ops_ex rfl (guard_none rfl) rfl rfl (ex_assign rfl rfl) ?_
  refine ops_ex rfl (guard_none rfl) rfl rfl (ex_assign rfl rfl) ?_
  refine ops_nil ?_
  refine at_then ?_
  refine run_seq ?_
  refine run_block ?_
  refine run_seq ?_
  obtain ⟨t6052, h6053, H⟩ := bind_some H
  obtain ⟨t6054, h6055, H⟩ := bind_some H
  refine run_meet (fun ρ_ w_ => ρ_ = [(0, p0), (1, .int .i64 x1), (2, p2), (3, .int .i64 x3), (4, .bool x4), (18, .bool ((!t6052) || (!t6054)))] ∧ Mem w [] w_ []) ?_ ?_
  · skip
    refine run_region rfl ?_
    refine ops_ex rfl (guard_none rfl) rfl rfl (ex_move rfl rfl) ?_
    refine ops_does rfl (guard_none rfl) rfl rfl (does_callk rfl callok90 rfl (impl_isId.calls (x0 := x1) h6053)) ?_
    rintro _ w6056 ⟨rfl, hn⟩
    replace HM : Mem w [] w6056 [] := HM.call hn
    refine ops_ex rfl (guard_none rfl) rfl rfl (ex_not rfl rfl) ?_
    refine ops_ex rfl (guard_none rfl) rfl rfl (ex_move rfl rfl) ?_
    refine bool_cases (!t6052) (fun hg6057 => ?_) (fun hg6057 => ?_)
    · skip
      refine ops_off rfl (guard_off rfl rfl rfl hg6057) rfl rfl ?_
      refine ops_off rfl (guard_off rfl rfl rfl hg6057) rfl rfl ?_
      refine ops_off rfl (guard_off rfl rfl rfl hg6057) rfl rfl ?_
      have hg6058 : ((!t6052) || (!t6054)) = true := by simp only [hg6057, Bool.and_true, Bool.true_and, Bool.and_false, Bool.false_and, Bool.or_true, Bool.true_or, Bool.or_false, Bool.false_or, Bool.not_true, Bool.not_false, Bool.not_not]
      refine ops_ex (v := .bool ((!t6052) || (!t6054))) rfl (guard_none rfl) rfl rfl (ex_por_t rfl rfl hg6057) ?_
      refine ops_ex rfl (guard_none rfl) rfl rfl (ex_assign rfl rfl) ?_
      refine ops_nil ?_
      exact at_meet [(0, p0), (1, .int .i64 x1), (2, p2), (3, .int .i64 x3), (4, .bool x4), (18, .bool ((!t6052) || (!t6054)))] ⟨rfl, HM⟩ (Sub.cons rfl (Sub.cons rfl (Sub.cons rfl (Sub.cons rfl (Sub.cons rfl (Sub.cons rfl Sub.nil))))))
    · skip
      refine ops_ex rfl (guard_on rfl rfl rfl hg6057) rfl rfl (ex_move rfl rfl) ?_
      refine ops_does rfl (guard_on rfl rfl rfl hg6057) rfl rfl (does_callk rfl callok65 rfl (impl_isHeight.calls (x0 := x3) (cond_t (not_mk hg6057) h6055))) ?_
      rintro _ w6059 ⟨rfl, hn⟩
      replace HM : Mem w [] w6059 [] := HM.call hn
      refine ops_ex rfl (guard_on rfl rfl rfl hg6057) rfl rfl (ex_not rfl rfl) ?_
      refine ops_ex (v := .bool ((!t6052) || (!t6054))) rfl (guard_none rfl) rfl rfl (ex_por_f rfl rfl hg6057 rfl) ?_
      refine ops_ex rfl (guard_none rfl) rfl rfl (ex_assign rfl rfl) ?_
      refine ops_nil ?_
      exact at_meet [(0, p0), (1, .int .i64 x1), (2, p2), (3, .int .i64 x3), (4, .bool x4), (18, .bool ((!t6052) || (!t6054)))] ⟨rfl, HM⟩ (Sub.cons rfl (Sub.cons rfl (Sub.cons rfl (Sub.cons rfl (Sub.cons rfl (Sub.cons rfl Sub.nil))))))
  · rintro _ w6060 ⟨rfl, HM⟩
    refine at_then ?_
    refine run_cond (b := ((!t6052) || (!t6054))) rfl (fun hb6061 => ?_) (fun hb6061 => ?_)
    · replace H := cond_t hb6061 H
      refine run_seq ?_
      refine run_region rfl ?_
      refine ops_ex rfl (guard_none rfl) rfl rfl (ex_assign rfl rfl) ?_
      refine ops_ex rfl (guard_none rfl) rfl rfl (ex_assign rfl rfl) ?_
      refine ops_nil ?_
      refine at_then ?_
      refine run_ret ?_
      refine at_block_ret ?_
      refine at_then_ret ?_
      replace HM := HM.empty kCoin 77 none
      have hR := Option.some.inj H
      subst hR
      exact at_ret2 rfl rfl rfl ⟨_, rfl, _, rfl, HM⟩
    · replace H := cond_f hb6061 H
      refine run_seq ?_
      refine run_region rfl ?_
      refine ops_ex rfl (guard_none rfl) rfl rfl (ex_move rfl rfl) ?_
      refine ops_ex rfl (guard_none rfl) rfl rfl (ex_len (d := kOut) (xs := x2) rfl rfl Tryz.underlying35 hp2) ?_
      refine ops_ex rfl (guard_none rfl) rfl rfl (ex_gtr rfl rfl rfl) ?_
      refine ops_ex rfl (guard_none rfl) rfl rfl (ex_assign rfl rfl) ?_
      refine ops_nil ?_
      refine at_then ?_
      refine run_cond (b := (decide (4 < (x2.length : Int)))) rfl (fun hb6063 => ?_) (fun hb6063 => ?_)
      · replace H := cond_t hb6063 H
        refine run_seq ?_
        refine run_region rfl ?_
        refine ops_ex rfl (guard_none rfl) rfl rfl (ex_assign rfl rfl) ?_
        refine ops_ex rfl (guard_none rfl) rfl rfl (ex_assign rfl rfl) ?_
        refine ops_nil ?_
        refine at_then ?_
        refine run_ret ?_
        refine at_block_ret ?_
        refine at_then_ret ?_
        replace HM := HM.empty kCoin 77 none
        have hR := Option.some.inj H
        subst hR
        exact at_ret2 rfl rfl rfl ⟨_, rfl, _, rfl, HM⟩
      · replace H := cond_f hb6063 H
        refine run_skip ?_
        refine at_block ?_
        refine at_then ?_
        obtain ⟨o6099, ho6100, H⟩ := bind_some H
        refine run_mid (fun ρ_ w_ => Sum.inr () = o6099 ∧ ρ_ = [(0, p0), (1, .int .i64 x1), (2, p2), (3, .int .i64 x3), (4, .bool x4)] ∧ Mem w [] w_ []) ?_ ?_
        · skip
          refine run_seq ?_
          refine run_region rfl ?_
          refine ops_ex rfl (guard_none rfl) rfl rfl (ex_move rfl rfl) ?_
          refine ops_ex rfl (guard_none rfl) rfl rfl (ex_len (d := kOut) (xs := x2) rfl rfl Tryz.underlying35 hp2) ?_
          refine ops_ex rfl (guard_none rfl) rfl rfl (ex_move rfl rfl) ?_
          refine ops_nil ?_
          refine at_then ?_
          refine run_block ?_
          refine run_loop (fun k_ ρ_ w_ => ∃ a6112 : Int, impl_putCoins.l0 x2 k_ a6112 = some o6099 ∧ ρ_ = [(0, p0), (1, .int .i64 x1), (2, p2), (3, .int .i64 x3), (4, .bool x4), (31, p2), (32, .int .i64 (x2.length : Int)), (33, .int .i64 a6112)] ∧ Mem w [] w_ []) k (ρ1 := [(0, p0), (1, .int .i64 x1), (2, p2), (3, .int .i64 x3), (4, .bool x4), (31, p2), (32, .int .i64 (x2.length : Int)), (33, .int .i64 0)]) ⟨_, ho6100, rfl, HM⟩ (Sub.cons rfl (Sub.cons rfl (Sub.cons rfl (Sub.cons rfl (Sub.cons rfl (Sub.cons rfl (Sub.cons rfl (Sub.cons rfl Sub.nil)))))))) ?_
          clear HM ho6100
          rintro k6124 _ w6125 ⟨a6112, ho6100, rfl, HM⟩
          obtain _ | k6124 := k6124
          · exact nomatch ((impl_putCoins.l0_z x2 a6112).symm.trans ho6100)
          replace ho6100 := (impl_putCoins.l0_s x2 k6124 a6112).symm.trans ho6100
          refine run_seq ?_
          refine run_region rfl ?_
          refine ops_ex rfl (guard_none rfl) rfl rfl (ex_lss rfl rfl rfl) ?_
          refine ops_nil ?_
          refine at_then ?_
          refine run_seq ?_
          refine run_cond (b := (decide (a6112 < (x2.length : Int)))) rfl (fun hb6126 => ?_) (fun hb6126 => ?_)
          · replace ho6100 := cond_t hb6126 ho6100
            refine run_skip ?_
            refine at_then ?_
            refine run_seq ?_
            refine run_block ?_
            refine run_seq ?_
            obtain ⟨e6127, ho6100⟩ := chk_some ho6100
            refine run_region rfl ?_
            obtain ⟨kv6129, hc6128, hk6130⟩ : ∃ u, CellsAt _ (sb p2) (so p2 + (a6112).toNat * 4) [(.int .i64 ((gt x2 a6112).fValue)), u, (.int .i64 ((gt x2 a6112).fRule.fNeed)), (.int .i64 ((gt x2 a6112).fRule.fAfter))] ∧ RdS kInt _ u ((gt x2 a6112).fRule.fKeys) := rd_with1 hp2 e6127
            refine ops_ex rfl (guard_none rfl) rfl rfl (ex_indexAddr (d := kOut) rfl rfl rfl Tryz.underlying35 tsz75 hp2 (idx_lo e6127) (idx_hi e6127)) ?_
            refine ops_ex rfl (guard_none rfl) rfl rfl (ex_loadN (cs := [(.int .i64 ((gt x2 a6112).fValue)), kv6129, (.int .i64 ((gt x2 a6112).fRule.fNeed)), (.int .i64 ((gt x2 a6112).fRule.fAfter))]) rfl rfl Tryz.underlying75 rfl tsz75 rfl ((HM.at_ hc6128).sub 0 4 rfl)) ?_
            refine ops_does rfl (guard_none rfl) rfl rfl (does_alloc (cs := [.int .i64 0, .slice none 0 0, .int .i64 0, .int .i64 0]) rfl tz75 rfl HM) ?_
            rintro _ w6134 ⟨b6131, rfl, HM⟩
            refine ops_doesS rfl (guard_none rfl) rfl (does_store (vs := [.int .i64 ((gt x2 a6112).fValue), kv6129, .int .i64 ((gt x2 a6112).fRule.fNeed), .int .i64 ((gt x2 a6112).fRule.fAfter)]) (cs' := [.int .i64 ((gt x2 a6112).fValue), kv6129, .int .i64 ((gt x2 a6112).fRule.fNeed), .int .i64 ((gt x2 a6112).fRule.fAfter)]) rfl rfl rfl rfl tsz75 (Ones.int (Ones.rd hk6130 (Ones.int (Ones.int Ones.nil)))) rfl rfl HM) ?_
            rintro w6135 HM
            refine ops_nil ?_
            refine at_then ?_
            refine run_seq ?_
            obtain ⟨t6136, h6137, ho6100⟩ := bind_some ho6100
            refine run_region rfl ?_
            refine ops_ex rfl (guard_none rfl) rfl rfl (ex_loadN (cs := [(.int .i64 ((gt x2 a6112).fValue)), kv6129, (.int .i64 ((gt x2 a6112).fRule.fNeed)), (.int .i64 ((gt x2 a6112).fRule.fAfter))]) rfl rfl Tryz.underlying75 rfl tsz75 rfl ((HM.box_at 0 rfl).sub 0 4 rfl)) ?_
            refine ops_does rfl (guard_none rfl) rfl rfl (does_callk rfl callok83 rfl (impl_outFault.calls (x0 := (gt x2 a6112)) (HM.rd hk6130) h6137)) ?_
            rintro _ w6138 ⟨rfl, hn⟩
            replace HM : Mem w [] w6138 [box b6131 75 [.int .i64 ((gt x2 a6112).fValue), kv6129, .int .i64 ((gt x2 a6112).fRule.fNeed), .int .i64 ((gt x2 a6112).fRule.fAfter)]] := HM.call hn
            refine ops_ex rfl (guard_none rfl) rfl rfl (ex_assign rfl rfl) ?_
            refine ops_nil ?_
            refine at_then ?_
            refine run_seq ?_
            refine run_region rfl ?_
            refine ops_ex rfl (guard_none rfl) rfl rfl (ex_move rfl rfl) ?_
            refine ops_ex rfl (guard_none rfl) rfl rfl (ex_neq rfl rfl rfl) ?_
            refine ops_nil ?_
            refine at_then ?_
            refine run_cond (b := (t6136 != 0)) rfl (fun hb6139 => ?_) (fun hb6139 => ?_)
            · replace ho6100 := cond_t hb6139 ho6100
              refine run_seq ?_
              refine run_region rfl ?_
              refine ops_ex rfl (guard_none rfl) rfl rfl (ex_move rfl rfl) ?_
              refine ops_ex rfl (guard_none rfl) rfl rfl (ex_assign rfl rfl) ?_
              refine ops_ex rfl (guard_none rfl) rfl rfl (ex_assign rfl rfl) ?_
              refine ops_nil ?_
              refine at_then ?_
              refine run_ret ?_
              refine at_block_ret ?_
              refine at_then_ret ?_
              refine at_then_ret ?_
              refine at_block_ret ?_
              refine at_then_ret ?_
              replace HM := HM.empty kCoin 77 none
              replace HM := (HM.front 1 rfl rfl).drop
              have hR := Option.some.inj ho6100
              subst hR
              have hT := thn_inl H
              have hR := Option.some.inj hT
              subst hR
              exact at_ret2 rfl rfl rfl ⟨_, rfl, _, rfl, HM⟩
            · replace ho6100 := cond_f hb6139 ho6100
              refine run_skip ?_
              refine at_block ?_
              refine at_then ?_
              refine run_region rfl ?_
              refine ops_ex rfl (guard_none rfl) rfl rfl (ex_add rfl rfl rfl) ?_
              refine ops_ex rfl (guard_none rfl) rfl rfl (ex_move rfl rfl) ?_
              refine ops_nil ?_
              replace HM := (HM.front 0 rfl rfl).drop
              exact at_again k6124 (ρ1 := [(0, p0), (1, .int .i64 x1), (2, p2), (3, .int .i64 x3), (4, .bool x4), (31, p2), (32, .int .i64 (x2.length : Int)), (33, .int .i64 (wrap64 (a6112 + 1)))]) (Nat.lt_succ_self _) ⟨_, ho6100, rfl, HM⟩ (Sub.cons rfl (Sub.cons rfl (Sub.cons rfl (Sub.cons rfl (Sub.cons rfl (Sub.cons rfl (Sub.cons rfl (Sub.cons rfl Sub.nil))))))))
          · replace ho6100 := cond_f hb6126 ho6100
            refine run_exit ?_
            refine at_then_exit ?_
            refine at_then_exit ?_
            refine at_block_exit ?_
            exact at_mid (ρ' := [(0, p0), (1, .int .i64 x1), (2, p2), (3, .int .i64 x3), (4, .bool x4)]) ⟨(Option.some.inj ho6100), rfl, HM⟩ (Sub.cons rfl (Sub.cons rfl (Sub.cons rfl (Sub.cons rfl (Sub.cons rfl Sub.nil)))))
        · rintro _ w6141 ⟨rfl, rfl, HM⟩
          replace H := (thn_inr H)
          refine run_seq ?_
          refine run_block ?_
          refine run_seq ?_
          obtain ⟨t6146, h6147, H⟩ := bind_some H
          refine run_region rfl ?_
          refine ops_ex rfl (guard_none rfl) rfl rfl (ex_move rfl rfl) ?_
          refine ops_ex rfl (guard_none rfl) rfl rfl (ex_move rfl rfl) ?_
          refine ops_does rfl (guard_none rfl) rfl rfl (does_callk rfl callok98 rfl (impl_hasTx.calls (x0 := x0) (x1 := x1) (HM.rd hp0) h6147)) ?_
          rintro _ w6148 ⟨rfl, hn⟩
          replace HM : Mem w [] w6148 [] := HM.call hn
          refine ops_ex rfl (guard_none rfl) rfl rfl (ex_assign rfl rfl) ?_
          refine ops_nil ?_
          refine at_then ?_
          refine run_cond (b := t6146) rfl (fun hb6149 => ?_) (fun hb6149 => ?_)
          · replace H := cond_t hb6149 H
            refine run_seq ?_
            refine run_region rfl ?_
            refine ops_ex rfl (guard_none rfl) rfl rfl (ex_assign rfl rfl) ?_
            refine ops_ex rfl (guard_none rfl) rfl rfl (ex_assign rfl rfl) ?_
            refine ops_nil ?_
            refine at_then ?_
            refine run_ret ?_
            refine at_block_ret ?_
            refine at_then_ret ?_
            replace HM := HM.empty kCoin 77 none
            have hR := Option.some.inj H
            subst hR
            exact at_ret2 rfl rfl rfl ⟨_, rfl, _, rfl, HM⟩
          · replace H := cond_f hb6149 H
            refine run_seq ?_
            refine run_region rfl ?_
            refine ops_ex rfl (guard_none rfl) rfl rfl (ex_move rfl rfl) ?_
            refine ops_ex rfl (guard_none rfl) rfl rfl (ex_len (d := kCoin) (xs := x0) rfl rfl Tryz.underlying29 hp0) ?_
            refine ops_ex rfl (guard_none rfl) rfl rfl (ex_move rfl rfl) ?_
            refine ops_ex rfl (guard_none rfl) rfl rfl (ex_len (d := kOut) (xs := x2) rfl rfl Tryz.underlying35 hp2) ?_
            refine ops_ex rfl (guard_none rfl) rfl rfl (ex_add rfl rfl rfl) ?_
            refine ops_ex rfl (guard_none rfl) rfl rfl (ex_gtr rfl rfl rfl) ?_
            refine ops_ex rfl (guard_none rfl) rfl rfl (ex_assign rfl rfl) ?_
            refine ops_nil ?_
            refine at_then ?_
            refine run_cond (b := (decide (40 < (wrap64 ((x0.length : Int) + (x2.length : Int)))))) rfl (fun hb6151 => ?_) (fun hb6151 => ?_)
            · replace H := cond_t hb6151 H
              refine run_seq ?_
              refine run_region rfl ?_
              refine ops_ex rfl (guard_none rfl) rfl rfl (ex_assign rfl rfl) ?_
              refine ops_ex rfl (guard_none rfl) rfl rfl (ex_assign rfl rfl) ?_
              refine ops_nil ?_
              refine at_then ?_
              refine run_ret ?_
              refine at_block_ret ?_
              refine at_then_ret ?_
              replace HM := HM.empty kCoin 77 none
              have hR := Option.some.inj H
              subst hR
              exact at_ret2 rfl rfl rfl ⟨_, rfl, _, rfl, HM⟩
            · replace H := cond_f hb6151 H
              refine run_skip ?_
              refine at_block ?_
              refine at_then ?_
              refine run_seq ?_
              obtain ⟨t6153, h6154, H⟩ := bind_some H
              refine run_region rfl ?_
              refine ops_ex rfl (guard_none rfl) rfl rfl (ex_move rfl rfl) ?_
              refine ops_does rfl (guard_none rfl) rfl rfl (does_callk rfl callok61 rfl (impl_ownCoins.calls (x0 := x0) (HM.rd hp0) h6154)) ?_
              rintro u6155 w6157 ⟨_, rfl, hn⟩
              replace HM : Mem w [] w6157 [own kCoin 77 u6155 t6153] := HM.call hn
              refine ops_ex rfl (guard_none rfl) rfl rfl (ex_assign rfl rfl) ?_
              refine ops_nil ?_
              refine at_then ?_
              obtain ⟨o6219, ho6220, H⟩ := bind_some H
              refine run_mid (fun ρ_ w_ => ∃ v6216 : Value, ∃ a6217 : List Coin, a6217 = o6219 ∧ ρ_ = [(15, v6216)] ∧ Mem w [] w_ [own kCoin 77 v6216 a6217]) ?_ ?_
              · clear H
                refine run_seq ?_
                refine run_region rfl ?_
                refine ops_ex rfl (guard_none rfl) rfl rfl (ex_move rfl rfl) ?_
                refine ops_ex rfl (guard_none rfl) rfl rfl (ex_len (d := kOut) (xs := x2) rfl rfl Tryz.underlying35 hp2) ?_
                refine ops_ex rfl (guard_none rfl) rfl rfl (ex_move rfl rfl) ?_
                refine ops_nil ?_
                refine at_then ?_
                refine run_block ?_
                refine run_loop (fun k_ ρ_ w_ => ∃ v6239 : Value, ∃ a6240 : List Coin, ∃ a6242 : Int, impl_putCoins.l1 x1 x2 x3 x4 k_ a6240 a6242 = some o6219 ∧ ρ_ = [(1, .int .i64 x1), (3, .int .i64 x3), (4, .bool x4), (15, v6239), (56, p2), (57, .int .i64 (x2.length : Int)), (58, .int .i64 a6242)] ∧ Mem w [] w_ [own kCoin 77 v6239 a6240]) k (ρ1 := [(1, .int .i64 x1), (3, .int .i64 x3), (4, .bool x4), (15, u6155), (56, p2), (57, .int .i64 (x2.length : Int)), (58, .int .i64 0)]) ⟨_, _, _, ho6220, rfl, HM⟩ (Sub.cons rfl (Sub.cons rfl (Sub.cons rfl (Sub.cons rfl (Sub.cons rfl (Sub.cons rfl (Sub.cons rfl Sub.nil))))))) ?_
                clear HM ho6220
                rintro k6261 _ w6262 ⟨v6239, a6240, a6242, ho6220, rfl, HM⟩
                obtain _ | k6261 := k6261
                · exact nomatch ((impl_putCoins.l1_z x1 x2 x3 x4 a6240 a6242).symm.trans ho6220)
                replace ho6220 := (impl_putCoins.l1_s x1 x2 x3 x4 k6261 a6240 a6242).symm.trans ho6220
                refine run_seq ?_
                refine run_region rfl ?_
                refine ops_ex rfl (guard_none rfl) rfl rfl (ex_lss rfl rfl rfl) ?_
                refine ops_nil ?_
                refine at_then ?_
                refine run_seq ?_
                refine run_cond (b := (decide (a6242 < (x2.length : Int)))) rfl (fun hb6263 => ?_) (fun hb6263 => ?_)
                · replace ho6220 := cond_t hb6263 ho6220
                  refine run_skip ?_
                  refine at_then ?_
                  refine run_seq ?_
                  refine run_block ?_
                  refine run_seq ?_
                  obtain ⟨e6264, ho6220⟩ := chk_some ho6220
                  refine run_region rfl ?_
                  refine ops_ex rfl (guard_none rfl) rfl rfl (ex_move rfl rfl) ?_
                  obtain ⟨kv6266, hc6265, hk6267⟩ : ∃ u, CellsAt _ (sb p2) (so p2 + (a6242).toNat * 4) [(.int .i64 ((gt x2 a6242).fValue)), u, (.int .i64 ((gt x2 a6242).fRule.fNeed)), (.int .i64 ((gt x2 a6242).fRule.fAfter))] ∧ RdS kInt _ u ((gt x2 a6242).fRule.fKeys) := rd_with1 hp2 e6264
                  refine ops_ex rfl (guard_none rfl) rfl rfl (ex_indexAddr (d := kOut) rfl rfl rfl Tryz.underlying35 tsz75 hp2 (idx_lo e6264) (idx_hi e6264)) ?_
                  refine ops_ex rfl (guard_none rfl) rfl rfl (ex_loadN (cs := [(.int .i64 ((gt x2 a6242).fValue)), kv6266, (.int .i64 ((gt x2 a6242).fRule.fNeed)), (.int .i64 ((gt x2 a6242).fRule.fAfter))]) rfl rfl Tryz.underlying75 rfl tsz75 rfl ((HM.at_ hc6265).sub 0 4 rfl)) ?_
                  refine ops_does rfl (guard_none rfl) rfl rfl (does_alloc (cs := [.int .i64 0, .slice none 0 0, .int .i64 0, .int .i64 0]) rfl tz75 rfl HM) ?_
                  rintro _ w6271 ⟨b6268, rfl, HM⟩
                  refine ops_ex rfl (guard_none rfl) rfl rfl (ex_assign rfl rfl) ?_
                  refine ops_doesS rfl (guard_none rfl) rfl (does_store (vs := [.int .i64 ((gt x2 a6242).fValue), kv6266, .int .i64 ((gt x2 a6242).fRule.fNeed), .int .i64 ((gt x2 a6242).fRule.fAfter)]) (cs' := [.int .i64 ((gt x2 a6242).fValue), kv6266, .int .i64 ((gt x2 a6242).fRule.fNeed), .int .i64 ((gt x2 a6242).fRule.fAfter)]) rfl rfl rfl rfl tsz75 (Ones.int (Ones.rd hk6267 (Ones.int (Ones.int Ones.nil)))) rfl rfl HM) ?_
                  rintro w6272 HM
                  refine ops_nil ?_
                  refine at_then ?_
                  obtain ⟨t6273, h6274, ho6220⟩ := bind_some ho6220
                  obtain ⟨e6280, ho6220⟩ := chk_some ho6220
                  refine run_region rfl ?_
                  refine ops_ex rfl (guard_none rfl) rfl rfl (ex_move rfl rfl) ?_
                  refine ops_ex rfl (guard_none rfl) rfl rfl (ex_move rfl rfl) ?_
                  refine ops_ex rfl (guard_none rfl) rfl rfl (ex_move rfl rfl) ?_
                  refine ops_ex rfl (guard_none rfl) rfl rfl (ex_build (cells := #[(.int .i64 x1), (.int .i64 a6242)]) rfl rfl (by kernel_rfl)) ?_
                  refine ops_ex rfl (guard_none rfl) rfl rfl (ex_loadN (cs := [(.int .i64 ((gt x2 a6242).fValue)), kv6266, (.int .i64 ((gt x2 a6242).fRule.fNeed)), (.int .i64 ((gt x2 a6242).fRule.fAfter))]) rfl rfl Tryz.underlying75 rfl tsz75 rfl ((HM.box_at 0 rfl).sub 0 4 rfl)) ?_
                  refine ops_does rfl (guard_none rfl) rfl rfl (does_callk rfl callok107 rfl (impl_ownOut.calls (x0 := (gt x2 a6242)) (HM.rd hk6267) h6274)) ?_
                  rintro _ w6283 ⟨u6275, rfl, hn⟩
                  replace HM : Mem w [] w6283 [own kInt 2 u6275 t6273.fRule.fKeys, box b6268 75 [.int .i64 ((gt x2 a6242).fValue), kv6266, .int .i64 ((gt x2 a6242).fRule.fNeed), .int .i64 ((gt x2 a6242).fRule.fAfter)], own kCoin 77 v6239 a6240] := HM.call hn
                  refine ops_ex rfl (guard_none rfl) rfl rfl (ex_move rfl rfl) ?_
                  refine ops_ex rfl (guard_none rfl) rfl rfl (ex_move rfl rfl) ?_
                  refine ops_ex rfl (guard_none rfl) rfl rfl (ex_build1 (fun u6275 => [(0, .agg #[(.int .i64 x1), (.int .i64 a6242)]), (1, .agg #[(.int .i64 t6273.fValue), u6275, (.int .i64 t6273.fRule.fNeed), (.int .i64 t6273.fRule.fAfter)]), (2, .int .i64 x3), (3, .bool x4)]) (fun u6275 => #[.int .i64 x1, .int .i64 a6242, .int .i64 t6273.fValue, u6275, .int .i64 t6273.fRule.fNeed, .int .i64 t6273.fRule.fAfter, .int .i64 x3, .bool x4]) rfl rfl (fun _ _ _ => by kernel_rfl) (HM.own_rd 0 rfl).isSl) ?_
                  refine ops_does rfl (guard_none rfl) rfl rfl (does_lit (e := 77) (cs := [(.int .i64 x1), (.int .i64 a6242), (.int .i64 t6273.fValue), u6275, (.int .i64 t6273.fRule.fNeed), (.int .i64 t6273.fRule.fAfter), (.int .i64 x3), (.bool x4)]) (xs := ([(⟨(⟨x1, a6242⟩ : Ref), t6273, x3, x4⟩ : Coin)] : List Coin)) kCoin rfl rfl (fun _ => by kernel_rfl) rfl rfl (fun _ _ h => by have := Elems.cons (d := kCoin) (x := (⟨(⟨x1, a6242⟩ : Ref), t6273, x3, x4⟩ : Coin)) ⟨_, rfl, h⟩ .nil; rw [List.append_nil, List.append_nil] at this; exact this) HM) ?_
                  rintro v6277 w6284 HM
                  replace HM := HM.front 2 rfl rfl
                  refine ops_does rfl (guard_none rfl) rfl rfl (does_append kCoin rfl rfl rfl Tryz.underlying29 tsz77 rfl tby77 tz77 rfl rfl (leB_le e6280) HM) ?_
                  rintro v6281 w6285 HM
                  refine ops_ex rfl (guard_none rfl) rfl rfl (ex_assign rfl rfl) ?_
                  refine ops_nil ?_
                  refine at_block ?_
                  refine at_then ?_
                  refine run_region rfl ?_
                  refine ops_ex rfl (guard_none rfl) rfl rfl (ex_add rfl rfl rfl) ?_
                  refine ops_ex rfl (guard_none rfl) rfl rfl (ex_move rfl rfl) ?_
                  refine ops_nil ?_
                  replace HM := (HM.front 1 rfl rfl).drop
                  exact at_again k6261 (ρ1 := [(1, .int .i64 x1), (3, .int .i64 x3), (4, .bool x4), (15, v6281), (56, p2), (57, .int .i64 (x2.length : Int)), (58, .int .i64 (wrap64 (a6242 + 1)))]) (Nat.lt_succ_self _) ⟨_, _, _, ho6220, rfl, HM⟩ (Sub.cons rfl (Sub.cons rfl (Sub.cons rfl (Sub.cons rfl (Sub.cons rfl (Sub.cons rfl (Sub.cons rfl Sub.nil)))))))
                · replace ho6220 := cond_f hb6263 ho6220
                  refine run_exit ?_
                  refine at_then_exit ?_
                  refine at_then_exit ?_
                  refine at_block_exit ?_
                  exact at_mid (ρ' := [(15, v6239)]) ⟨_, _, (Option.some.inj ho6220), rfl, HM⟩ (Sub.cons rfl Sub.nil)
              · rintro _ w6286 ⟨v6216, a6217, rfl, rfl, HM⟩
                refine run_seq ?_
                obtain ⟨t6287, h6288, H⟩ := bind_some H
                refine run_region rfl ?_
                refine ops_ex rfl (guard_none rfl) rfl rfl (ex_move rfl rfl) ?_
                obtain ⟨F6291, hF6292, hFn6293, hFl6294, HMh6295, hcl6296⟩ := HM.hide (Ms := [own kCoin 77 v6216 a6217])
                refine ops_does rfl (guard_none rfl) rfl rfl (does_callk rfl callok84 rfl (impl_sorted.calls (x0 := a6217) (hide_olds _ _) hF6292 hFn6293 hFl6294 h6288)) ?_
                rintro u6289 w6297 ⟨_, rfl, hn⟩
                replace HM : Mem w [] w6297 [own kCoin 77 u6289 t6287] := hcl6296 _ _ hn
                refine ops_ex rfl (guard_none rfl) rfl rfl (ex_assign rfl rfl) ?_
                refine ops_ex rfl (guard_none rfl) rfl rfl (ex_assign rfl rfl) ?_
                refine ops_nil ?_
                refine at_then ?_
                refine run_ret ?_
                have hR := Option.some.inj H
                subst hR
                exact at_ret2 rfl rfl rfl ⟨_, rfl, _, rfl, HM⟩

def impl_spendTx.f (k : Nat) (x0 : List Coin) (x1 : Tx) (x2 : Int) (x3 : Int) : Option ((List Coin) × Int) := ((impl_spentBy.f k x0 x1).bind fun t6311 => (bif (t6311.2 != 0) then some (([] : List Coin), t6311.2) else ((impl_hasTx.f k x0 x2).bind fun t6321 => (bif t6321 then some (([] : List Coin), 7) else ((impl_takeCoins.f k x0 x1.fIns).bind fun t6326 => ((impl_putCoins.f k t6326.1 x2 x1.fOuts x3 false).bind fun t6331 => some (t6331.1, t6331.2)))))))
theorem impl_spendTx.calls {k : Nat} {x0 : List Coin} {x1 : Tx} {x2 : Int} {x3 : Int} {p0 : Value} {p1_0 : Value} {p1_1 : Value} {w : World} (hp0 : RdS kCoin w p0 x0) (hp1_0 : RdS kRef w p1_0 x1.fIns) (hp1_1 : RdS kOut w p1_1 x1.fOuts) {r : (List Coin) × Int} (H : impl_spendTx.f k x0 x1 x2 x3 = some r) :
    Calls Tryz.prog 55 ([p0, .agg #[(.int .i64 x1.fKind), (.int .i64 x1.fMember), p1_0, p1_1], .int .i64 x2, .int .i64 x3] : List Value).toArray w (fun e w_ => ∃ v, e = .returned v ∧ ∃ u0 : Value, v = (.tuple #[u0, .int .i64 r.2]) ∧ Mem w [] w_ [own kCoin 77 u0 r.1]) := by
  have HM := Mem.start w
  refine calls_run (N := 41) Tryz.func55 rfl rfl rfl rfl ?_
  unfold impl_spendTx.f at H
  refine run_seq ?_
  refine run_region rfl ?_
  refine ops_does rfl (guard_none rfl) rfl rfl (does_box (cs := [.int .i64 x1.fKind, .int .i64 x1.fMember, p1_0, p1_1]) rfl rfl rfl HM) ?_
  rintro _ w6305 ⟨b6302, rfl, HM⟩
  refine ops_ex rfl (guard_none rfl) rfl rfl (ex_assign rfl rfl) ?_
  refine ops_ex rfl (guard_none rfl) rfl rfl (ex_assign rfl rfl) ?_
  refine ops_nil ?_
  refine at_then ?_
  refine run_seq ?_
  refine run_seq ?_
  obtain ⟨t6311, h6312, H⟩ := bind_some H
  refine run_region rfl ?_
  refine ops_ex rfl (guard_none rfl) rfl rfl (ex_move rfl rfl) ?_
  refine ops_ex rfl (guard_none rfl) rfl rfl (ex_loadN (cs := [(.int .i64 x1.fKind), (.int .i64 x1.fMember), p1_0, p1_1]) rfl rfl Tryz.underlying37 rfl tsz37 rfl ((HM.box_at 0 rfl).sub 0 4 rfl)) ?_
  refine ops_does rfl (guard_none rfl) rfl rfl (does_callk rfl callok39 rfl (impl_spentBy.calls (x0 := x0) (x1 := x1) (HM.rd hp0) (HM.rd hp1_0) (HM.rd hp1_1) h6312)) ?_
  rintro _ w6315 ⟨u6313, rfl, hn⟩
  replace HM : Mem w [] w6315 [own kCoin 77 u6313 t6311.1, box b6302 37 [.int .i64 x1.fKind, .int .i64 x1.fMember, p1_0, p1_1]] := HM.call hn
  refine ops_ex rfl (guard_none rfl) rfl rfl (ex_move rfl rfl) ?_
  refine ops_ex rfl (guard_none rfl) rfl rfl (ex_extract rfl rfl rfl) ?_
  refine ops_ex rfl (guard_none rfl) rfl rfl (ex_extract rfl rfl rfl) ?_
  refine ops_ex rfl (guard_none rfl) rfl rfl (ex_assign rfl rfl) ?_
  refine ops_ex rfl (guard_none rfl) rfl rfl (ex_assign rfl rfl) ?_
  refine ops_nil ?_
  refine at_then ?_
  refine run_seq ?_
  refine run_region rfl ?_
  refine ops_ex rfl (guard_none rfl) rfl rfl (ex_move rfl rfl) ?_
  refine ops_ex rfl (guard_none rfl) rfl rfl (ex_neq rfl rfl rfl) ?_
  refine ops_nil ?_
  refine at_then ?_
  refine run_cond (b := (t6311.2 != 0)) rfl (fun hb6316 => ?_) (fun hb6316 => ?_)
  · replace H := cond_t hb6316 H
    refine run_seq ?_
    refine run_region rfl ?_
    refine ops_ex rfl (guard_none rfl) rfl rfl (ex_move rfl rfl) ?_
    refine ops_ex rfl (guard_none rfl) rfl rfl (ex_assign rfl rfl) ?_
    refine ops_ex rfl (guard_none rfl) rfl rfl (ex_assign rfl rfl) ?_
    refine ops_nil ?_
    refine at_then ?_
    refine run_ret ?_
    refine at_then_ret ?_
    replace HM := HM.empty kCoin 77 none
    replace HM := (HM.front 1 rfl rfl).drop
    replace HM := (HM.front 1 rfl rfl).drop
    have hR := Option.some.inj H
    subst hR
    exact at_ret2 rfl rfl rfl ⟨_, rfl, _, rfl, HM⟩
  · replace H := cond_f hb6316 H
    refine run_skip ?_
    refine at_then ?_
    refine run_seq ?_
    refine run_seq ?_
    obtain ⟨t6321, h6322, H⟩ := bind_some H
    refine run_region rfl ?_
    refine ops_ex rfl (guard_none rfl) rfl rfl (ex_move rfl rfl) ?_
    refine ops_ex rfl (guard_none rfl) rfl rfl (ex_move rfl rfl) ?_
    refine ops_does rfl (guard_none rfl) rfl rfl (does_callk rfl callok98 rfl (impl_hasTx.calls (x0 := x0) (x1 := x2) (HM.rd hp0) h6322)) ?_
    rintro _ w6323 ⟨rfl, hn⟩
    replace HM : Mem w [] w6323 [own kCoin 77 u6313 t6311.1, box b6302 37 [.int .i64 x1.fKind, .int .i64 x1.fMember, p1_0, p1_1]] := HM.call hn
    refine ops_nil ?_
    refine at_then ?_
    refine run_cond (b := t6321) rfl (fun hb6324 => ?_) (fun hb6324 => ?_)
    · replace H := cond_t hb6324 H
      refine run_seq ?_
      refine run_region rfl ?_
      refine ops_ex rfl (guard_none rfl) rfl rfl (ex_assign rfl rfl) ?_
      refine ops_ex rfl (guard_none rfl) rfl rfl (ex_assign rfl rfl) ?_
      refine ops_nil ?_
      refine at_then ?_
      refine run_ret ?_
      refine at_then_ret ?_
      replace HM := HM.empty kCoin 77 none
      replace HM := (HM.front 1 rfl rfl).drop
      replace HM := (HM.front 1 rfl rfl).drop
      have hR := Option.some.inj H
      subst hR
      exact at_ret2 rfl rfl rfl ⟨_, rfl, _, rfl, HM⟩
    · replace H := cond_f hb6324 H
      refine run_skip ?_
      refine at_then ?_
      refine run_seq ?_
      obtain ⟨t6326, h6327, H⟩ := bind_some H
      refine run_region rfl ?_
      refine ops_ex rfl (guard_none rfl) rfl rfl (ex_move rfl rfl) ?_
      refine ops_ex rfl (guard_none rfl) rfl rfl (ex_fieldAddr (off' := 2) rfl rfl Tryz.underlying37 rfl tsz34 rfl) ?_
      refine ops_ex rfl (guard_none rfl) rfl rfl (ex_load1 rfl rfl Tryz.underlying34 rfl ((HM.box_at 1 rfl) 2 _ rfl)) ?_
      refine ops_does rfl (guard_none rfl) rfl rfl (does_callk rfl callok99 rfl (impl_takeCoins.calls (x0 := x0) (x1 := x1.fIns) (HM.rd hp0) (HM.rd hp1_0) h6327)) ?_
      rintro _ w6330 ⟨u6328, rfl, hn⟩
      replace HM : Mem w [] w6330 [own kCoin 77 u6328 t6326.1, own kCoin 77 u6313 t6311.1, box b6302 37 [.int .i64 x1.fKind, .int .i64 x1.fMember, p1_0, p1_1]] := HM.call hn
      refine ops_ex rfl (guard_none rfl) rfl rfl (ex_move rfl rfl) ?_
      refine ops_ex rfl (guard_none rfl) rfl rfl (ex_extract rfl rfl rfl) ?_
      refine ops_ex rfl (guard_none rfl) rfl rfl (ex_extract rfl rfl rfl) ?_
      refine ops_ex rfl (guard_none rfl) rfl rfl (ex_assign rfl rfl) ?_
      refine ops_ex rfl (guard_none rfl) rfl rfl (ex_assign rfl rfl) ?_
      refine ops_nil ?_
      refine at_then ?_
      refine run_seq ?_
      obtain ⟨t6331, h6332, H⟩ := bind_some H
      refine run_region rfl ?_
      refine ops_ex rfl (guard_none rfl) rfl rfl (ex_move rfl rfl) ?_
      refine ops_ex rfl (guard_none rfl) rfl rfl (ex_move rfl rfl) ?_
      refine ops_ex rfl (guard_none rfl) rfl rfl (ex_fieldAddr (off' := 3) rfl rfl Tryz.underlying37 rfl tsz35 rfl) ?_
      refine ops_ex rfl (guard_none rfl) rfl rfl (ex_load1 rfl rfl Tryz.underlying35 rfl ((HM.box_at 2 rfl) 3 _ rfl)) ?_
      refine ops_ex rfl (guard_none rfl) rfl rfl (ex_move rfl rfl) ?_
      refine ops_does rfl (guard_none rfl) rfl rfl (does_callk rfl callok100 rfl (impl_putCoins.calls (x0 := t6326.1) (x1 := x2) (x2 := x1.fOuts) (x3 := x3) (x4 := false) (HM.own_rd 0 rfl) (HM.rd hp1_1) h6332)) ?_
      rintro _ w6335 ⟨u6333, rfl, hn⟩
      replace HM : Mem w [] w6335 [own kCoin 77 u6333 t6331.1, own kCoin 77 u6328 t6326.1, own kCoin 77 u6313 t6311.1, box b6302 37 [.int .i64 x1.fKind, .int .i64 x1.fMember, p1_0, p1_1]] := HM.call hn
      refine ops_ex rfl (guard_none rfl) rfl rfl (ex_extract rfl rfl rfl) ?_
      refine ops_ex rfl (guard_none rfl) rfl rfl (ex_extract rfl rfl rfl) ?_
      refine ops_ex rfl (guard_none rfl) rfl rfl (ex_assign rfl rfl) ?_
      refine ops_ex rfl (guard_none rfl) rfl rfl (ex_assign rfl rfl) ?_
      refine ops_nil ?_
      refine at_then ?_
      refine run_ret ?_
      replace HM := (HM.front 1 rfl rfl).drop
      replace HM := (HM.front 1 rfl rfl).drop
      replace HM := (HM.front 1 rfl rfl).drop
      have hR := Option.some.inj H
      subst hR
      exact at_ret2 rfl rfl rfl ⟨_, rfl, _, rfl, HM⟩

def impl_SpendTx.f (k : Nat) (x0 : List Coin) (x1 : Tx) (x2 : Int) (x3 : Int) : Option CoinsResult := ((impl_CoinsFault.f k x0).bind fun t6351 => (bif (t6351 != 0) then some (⟨t6351, ([] : List Coin)⟩ : CoinsResult) else ((impl_TxFault.f k x1).bind fun t6360 => (bif (t6360 != 0) then some (⟨t6360, ([] : List Coin)⟩ : CoinsResult) else ((impl_spendTx.f k x0 x1 x2 x3).bind fun t6366 => some (⟨t6366.2, t6366.1⟩ : CoinsResult))))))
theorem impl_SpendTx.calls {k : Nat} {x0 : List Coin} {x1 : Tx} {x2 : Int} {x3 : Int} {p0 : Value} {p1_0 : Value} {p1_1 : Value} {w : World} (hp0 : RdS kCoin w p0 x0) (hp1_0 : RdS kRef w p1_0 x1.fIns) (hp1_1 : RdS kOut w p1_1 x1.fOuts) {r : CoinsResult} (H : impl_SpendTx.f k x0 x1 x2 x3 = some r) :
    Calls Tryz.prog 23 ([p0, .agg #[(.int .i64 x1.fKind), (.int .i64 x1.fMember), p1_0, p1_1], .int .i64 x2, .int .i64 x3] : List Value).toArray w (fun e w_ => ∃ v, e = .returned v ∧ ∃ u0 : Value, v = (.agg #[.int .i64 r.fCode, u0]) ∧ Mem w [] w_ [own kCoin 77 u0 r.fCoins]) := by
  have HM := Mem.start w
  refine calls_run (N := 36) Tryz.func23 rfl rfl rfl rfl ?_
  unfold impl_SpendTx.f at H
  refine run_seq ?_
  refine run_region rfl ?_
  refine ops_does rfl (guard_none rfl) rfl rfl (does_box (cs := [.int .i64 x1.fKind, .int .i64 x1.fMember, p1_0, p1_1]) rfl rfl rfl HM) ?_
  rintro _ w6346 ⟨b6340, rfl, HM⟩
  refine ops_does rfl (guard_none rfl) rfl rfl (does_alloc (cs := [.int .i64 0, .slice none 0 0]) rfl tz31 rfl HM) ?_
  rintro _ w6347 ⟨b6343, rfl, HM⟩
  refine ops_nil ?_
  refine at_then ?_
  refine run_seq ?_
  refine run_seq ?_
  obtain ⟨t6351, h6352, H⟩ := bind_some H
  refine run_region rfl ?_
  refine ops_ex rfl (guard_none rfl) rfl rfl (ex_move rfl rfl) ?_
  refine ops_does rfl (guard_none rfl) rfl rfl (does_callk rfl callok28 rfl (impl_CoinsFault.calls (x0 := x0) (HM.rd hp0) h6352)) ?_
  rintro _ w6353 ⟨rfl, hn⟩
  replace HM : Mem w [] w6353 [box b6343 31 [.int .i64 0, .slice none 0 0], box b6340 37 [.int .i64 x1.fKind, .int .i64 x1.fMember, p1_0, p1_1]] := HM.call hn
  refine ops_ex rfl (guard_none rfl) rfl rfl (ex_assign rfl rfl) ?_
  refine ops_nil ?_
  refine at_then ?_
  refine run_seq ?_
  refine run_region rfl ?_
  refine ops_ex rfl (guard_none rfl) rfl rfl (ex_move rfl rfl) ?_
  refine ops_ex rfl (guard_none rfl) rfl rfl (ex_neq rfl rfl rfl) ?_
  refine ops_nil ?_
  refine at_then ?_
  refine run_cond (b := (t6351 != 0)) rfl (fun hb6354 => ?_) (fun hb6354 => ?_)
  · replace H := cond_t hb6354 H
    refine run_seq ?_
    refine run_region rfl ?_
    refine ops_ex rfl (guard_none rfl) rfl rfl (ex_move rfl rfl) ?_
    refine ops_ex rfl (guard_none rfl) rfl rfl (ex_build (cells := #[(.int .i64 t6351), (.slice none 0 0)]) rfl rfl (by kernel_rfl)) ?_
    refine ops_doesS rfl (guard_none rfl) rfl (does_store (vs := [.int .i64 t6351, .slice none 0 0]) (cs' := [.int .i64 t6351, .slice none 0 0]) rfl rfl rfl rfl tsz31 (Ones.int (Ones.sl Ones.nil)) rfl rfl HM) ?_
    rintro w6355 HM
    refine ops_nil ?_
    refine at_then ?_
    refine run_ret ?_
    refine at_then_ret ?_
    replace HM := HM.empty kCoin 77 none
    replace HM := (HM.front 2 rfl rfl).drop
    replace HM := HM.front 1 rfl rfl
    have hcb0 := HM.box_at 0 rfl
    replace HM := (HM.front 0 rfl rfl).drop
    have hR := Option.some.inj H
    subst hR
    exact at_retN rfl rfl Tryz.underlying31 rfl tsz31 rfl hcb0 ⟨_, rfl, _, rfl, HM⟩
  · replace H := cond_f hb6354 H
    refine run_skip ?_
    refine at_then ?_
    refine run_seq ?_
    refine run_seq ?_
    obtain ⟨t6360, h6361, H⟩ := bind_some H
    refine run_region rfl ?_
    refine ops_ex rfl (guard_none rfl) rfl rfl (ex_loadN (cs := [(.int .i64 x1.fKind), (.int .i64 x1.fMember), p1_0, p1_1]) rfl rfl Tryz.underlying37 rfl tsz37 rfl ((HM.box_at 1 rfl).sub 0 4 rfl)) ?_
    refine ops_does rfl (guard_none rfl) rfl rfl (does_callk rfl callok38 rfl (impl_TxFault.calls (x0 := x1) (HM.rd hp1_0) (HM.rd hp1_1) h6361)) ?_
    rintro _ w6362 ⟨rfl, hn⟩
    replace HM : Mem w [] w6362 [box b6343 31 [.int .i64 0, .slice none 0 0], box b6340 37 [.int .i64 x1.fKind, .int .i64 x1.fMember, p1_0, p1_1]] := HM.call hn
    refine ops_ex rfl (guard_none rfl) rfl rfl (ex_assign rfl rfl) ?_
    refine ops_nil ?_
    refine at_then ?_
    refine run_seq ?_
    refine run_region rfl ?_
    refine ops_ex rfl (guard_none rfl) rfl rfl (ex_move rfl rfl) ?_
    refine ops_ex rfl (guard_none rfl) rfl rfl (ex_neq rfl rfl rfl) ?_
    refine ops_nil ?_
    refine at_then ?_
    refine run_cond (b := (t6360 != 0)) rfl (fun hb6363 => ?_) (fun hb6363 => ?_)
    · replace H := cond_t hb6363 H
      refine run_seq ?_
      refine run_region rfl ?_
      refine ops_ex rfl (guard_none rfl) rfl rfl (ex_move rfl rfl) ?_
      refine ops_ex rfl (guard_none rfl) rfl rfl (ex_build (cells := #[(.int .i64 t6360), (.slice none 0 0)]) rfl rfl (by kernel_rfl)) ?_
      refine ops_doesS rfl (guard_none rfl) rfl (does_store (vs := [.int .i64 t6360, .slice none 0 0]) (cs' := [.int .i64 t6360, .slice none 0 0]) rfl rfl rfl rfl tsz31 (Ones.int (Ones.sl Ones.nil)) rfl rfl HM) ?_
      rintro w6364 HM
      refine ops_nil ?_
      refine at_then ?_
      refine run_ret ?_
      refine at_then_ret ?_
      replace HM := HM.empty kCoin 77 none
      replace HM := (HM.front 2 rfl rfl).drop
      replace HM := HM.front 1 rfl rfl
      have hcb0 := HM.box_at 0 rfl
      replace HM := (HM.front 0 rfl rfl).drop
      have hR := Option.some.inj H
      subst hR
      exact at_retN rfl rfl Tryz.underlying31 rfl tsz31 rfl hcb0 ⟨_, rfl, _, rfl, HM⟩
    · replace H := cond_f hb6363 H
      refine run_skip ?_
      refine at_then ?_
      refine run_seq ?_
      obtain ⟨t6366, h6367, H⟩ := bind_some H
      refine run_region rfl ?_
      refine ops_ex rfl (guard_none rfl) rfl rfl (ex_move rfl rfl) ?_
      refine ops_ex rfl (guard_none rfl) rfl rfl (ex_loadN (cs := [(.int .i64 x1.fKind), (.int .i64 x1.fMember), p1_0, p1_1]) rfl rfl Tryz.underlying37 rfl tsz37 rfl ((HM.box_at 1 rfl).sub 0 4 rfl)) ?_
      refine ops_ex rfl (guard_none rfl) rfl rfl (ex_move rfl rfl) ?_
      refine ops_ex rfl (guard_none rfl) rfl rfl (ex_move rfl rfl) ?_
      refine ops_does rfl (guard_none rfl) rfl rfl (does_callk rfl callok55 rfl (impl_spendTx.calls (x0 := x0) (x1 := x1) (x2 := x2) (x3 := x3) (HM.rd hp0) (HM.rd hp1_0) (HM.rd hp1_1) h6367)) ?_
      rintro _ w6370 ⟨u6368, rfl, hn⟩
      replace HM : Mem w [] w6370 [own kCoin 77 u6368 t6366.1, box b6343 31 [.int .i64 0, .slice none 0 0], box b6340 37 [.int .i64 x1.fKind, .int .i64 x1.fMember, p1_0, p1_1]] := HM.call hn
      refine ops_ex rfl (guard_none rfl) rfl rfl (ex_move rfl rfl) ?_
      refine ops_ex rfl (guard_none rfl) rfl rfl (ex_extract rfl rfl rfl) ?_
      refine ops_ex rfl (guard_none rfl) rfl rfl (ex_extract rfl rfl rfl) ?_
      refine ops_ex rfl (guard_none rfl) rfl rfl (ex_assign rfl rfl) ?_
      refine ops_ex rfl (guard_none rfl) rfl rfl (ex_assign rfl rfl) ?_
      refine ops_nil ?_
      refine at_then ?_
      refine run_seq ?_
      refine run_region rfl ?_
      refine ops_ex rfl (guard_none rfl) rfl rfl (ex_move rfl rfl) ?_
      refine ops_ex rfl (guard_none rfl) rfl rfl (ex_move rfl rfl) ?_
      refine ops_ex rfl (guard_none rfl) rfl rfl (ex_build1 (fun u6368 => [(0, .int .i64 t6366.2), (1, u6368)]) (fun u6368 => #[.int .i64 t6366.2, u6368]) rfl rfl (fun _ _ _ => by kernel_rfl) (HM.own_rd 0 rfl).isSl) ?_
      replace HM := HM.front 1 rfl rfl
      refine ops_doesS rfl (guard_none rfl) rfl (does_store (vs := [.int .i64 t6366.2, u6368]) (cs' := [.int .i64 t6366.2, u6368]) rfl rfl rfl rfl tsz31 (Ones.int (Ones.rd (HM.own_rd 1 rfl) Ones.nil)) rfl rfl HM) ?_
      rintro w6371 HM
      refine ops_nil ?_
      refine at_then ?_
      refine run_ret ?_
      replace HM := (HM.front 2 rfl rfl).drop
      have hcb0 := HM.box_at 0 rfl
      replace HM := (HM.front 0 rfl rfl).drop
      have hR := Option.some.inj H
      subst hR
      exact at_retN rfl rfl Tryz.underlying31 rfl tsz31 rfl hcb0 ⟨_, rfl, _, rfl, HM⟩
end Go.Proofs.YtcamddjlhchkfaaGreat.Zk
