/- What functions of the program compute, each as a plain function, and that they do. Conditions: as each theorem states them. -/
import Derived.Test.YtigojhglkilodaaCoinAtZkF4
namespace Go.Proofs.Ytigojhglkilodaa.Zk
open Go Go.RowKit Go.IntWalk Go.Proofs
set_option linter.unusedVariables false
set_option linter.unusedSimpArgs false
set_option maxRecDepth 100000
set_option maxHeartbeats 4000000
def laws_eqCoinS.l0 (x0 : List Coin) (x1 : List Coin) : Nat → Int → Option (Bool ⊕ Unit)
  | 0, _ => none
  | k + 1, a3047 => (bif (decide (a3047 < (x0.length : Int))) then (chk (idxOk a3047 x0.length) (chk (idxOk a3047 x1.length) ((laws_eqCoin.f k (gt x0 a3047) (gt x1 a3047)).bind fun t3071 => (bif !t3071 then some (.inl false) else laws_eqCoinS.l0 x0 x1 k (wrap64 (a3047 + 1)))))) else some (.inr ()))
theorem laws_eqCoinS.l0_z (x0 : List Coin) (x1 : List Coin) (a3047 : Int) : laws_eqCoinS.l0 x0 x1 0 a3047 = none := rfl
theorem laws_eqCoinS.l0_s (x0 : List Coin) (x1 : List Coin) (k : Nat) (a3047 : Int) : laws_eqCoinS.l0 x0 x1 (k + 1) a3047 = (bif (decide (a3047 < (x0.length : Int))) then (chk (idxOk a3047 x0.length) (chk (idxOk a3047 x1.length) ((laws_eqCoin.f k (gt x0 a3047) (gt x1 a3047)).bind fun t3071 => (bif !t3071 then some (.inl false) else laws_eqCoinS.l0 x0 x1 k (wrap64 (a3047 + 1)))))) else some (.inr ())) := rfl
def laws_eqCoinS.f (k : Nat) (x0 : List Coin) (x1 : List Coin) : Option Bool := (bif ((x0.length : Int) != (x1.length : Int)) then some false else ((laws_eqCoinS.l0 x0 x1 k 0).bind fun o3033 => thn o3033 (fun r => some r) (fun _ => some true)))
theorem laws_eqCoinS.calls {k : Nat} {x0 : List Coin} {x1 : List Coin} {p0 : Value} {p1 : Value} {w : World} (hp0 : RdS kCoin w p0 x0) (hp1 : RdS kCoin w p1 x1) {r : Bool} (H : laws_eqCoinS.f k x0 x1 = some r) :
    Calls Try.prog 23 ([p0, p1] : List Value).toArray w (fun e w_ => ∃ v, e = .returned v ∧ v = (.bool r) ∧ Mem w [] w_ []) := by
  have HM := Mem.start w
  refine calls_run (N := 27) Try.func23 rfl rfl rfl rfl ?_
  unfold laws_eqCoinS.f at H
  refine run_seq ?_
  refine run_region rfl ?_
  refine ops_ex rfl (guard_none rfl) rfl rfl (ex_assign rfl rfl) ?_
  refine ops_nil ?_
  refine at_then ?_
  refine run_seq ?_
  refine run_seq ?_
  refine run_region rfl ?_
  refine ops_ex rfl (guard_none rfl) rfl rfl (ex_move rfl rfl) ?_
  refine ops_ex rfl (guard_none rfl) rfl rfl (ex_len (d := kCoin) (xs := x0) rfl rfl Try.underlying44 hp0) ?_
  refine ops_ex rfl (guard_none rfl) rfl rfl (ex_move rfl rfl) ?_
  refine ops_ex rfl (guard_none rfl) rfl rfl (ex_len (d := kCoin) (xs := x1) rfl rfl Try.underlying44 hp1) ?_
  refine ops_ex rfl (guard_none rfl) rfl rfl (ex_neq rfl rfl rfl) ?_
  refine ops_nil ?_
  refine at_then ?_
  refine run_cond (b := ((x0.length : Int) != (x1.length : Int))) rfl (fun hb2995 => ?_) (fun hb2995 => ?_)
  · replace H := cond_t hb2995 H
    refine run_seq ?_
    refine run_region rfl ?_
    refine ops_ex rfl (guard_none rfl) rfl rfl (ex_assign rfl rfl) ?_
    refine ops_nil ?_
    refine at_then ?_
    refine run_ret ?_
    refine at_then_ret ?_
    have hR := Option.some.inj H
    subst hR
    exact at_ret1 rfl rfl ⟨_, rfl, rfl, HM⟩
  · replace H := cond_f hb2995 H
    refine run_skip ?_
    refine at_then ?_
    obtain ⟨o3033, ho3034, H⟩ := bind_some H
    refine run_mid (fun ρ_ w_ => Sum.inr () = o3033 ∧ ρ_ = [] ∧ Mem w [] w_ []) ?_ ?_
    · skip
      refine run_seq ?_
      refine run_region rfl ?_
      refine ops_ex rfl (guard_none rfl) rfl rfl (ex_assign rfl rfl) ?_
      refine ops_nil ?_
      refine at_then ?_
      refine run_block ?_
      refine run_loop (fun k_ ρ_ w_ => ∃ a3047 : Int, laws_eqCoinS.l0 x0 x1 k_ a3047 = some o3033 ∧ ρ_ = [(0, p0), (1, p1), (5, .int .i64 a3047)] ∧ Mem w [] w_ []) k (ρ1 := [(0, p0), (1, p1), (5, .int .i64 0)]) ⟨_, ho3034, rfl, HM⟩ (Sub.cons rfl (Sub.cons rfl (Sub.cons rfl Sub.nil))) ?_
      clear HM ho3034
      rintro k3060 _ w3061 ⟨a3047, ho3034, rfl, HM⟩
      obtain _ | k3060 := k3060
      · exact nomatch ((laws_eqCoinS.l0_z x0 x1 a3047).symm.trans ho3034)
      replace ho3034 := (laws_eqCoinS.l0_s x0 x1 k3060 a3047).symm.trans ho3034
      refine run_seq ?_
      refine run_seq ?_
      refine run_region rfl ?_
      refine ops_ex rfl (guard_none rfl) rfl rfl (ex_move rfl rfl) ?_
      refine ops_ex rfl (guard_none rfl) rfl rfl (ex_move rfl rfl) ?_
      refine ops_ex rfl (guard_none rfl) rfl rfl (ex_len (d := kCoin) (xs := x0) rfl rfl Try.underlying44 hp0) ?_
      refine ops_ex rfl (guard_none rfl) rfl rfl (ex_lss rfl rfl rfl) ?_
      refine ops_nil ?_
      refine at_then ?_
      refine run_cond (b := (decide (a3047 < (x0.length : Int)))) rfl (fun hb3062 => ?_) (fun hb3062 => ?_)
      · replace ho3034 := cond_t hb3062 ho3034
        refine run_skip ?_
        refine at_then ?_
        refine run_seq ?_
        refine run_block ?_
        refine run_seq ?_
        obtain ⟨e3063, ho3034⟩ := chk_some ho3034
        obtain ⟨e3067, ho3034⟩ := chk_some ho3034
        obtain ⟨t3071, h3072, ho3034⟩ := bind_some ho3034
        refine run_drawf (fun w_ => Mem w [] w_ []) [(0, true), (1, true), (2, true), (3, true), (4, true), (5, true), (6, true), (7, true), (8, false), (9, true)] mixed rfl rfl (by kernel_rfl) ?_
        replace HM := HM.grow (fr_drew _)
        have hS := Mem.suf (M := []) HM
        refine drwp_take rfl (guard_none rfl) rfl rfl (fun w_ hS_ => (ex_move rfl rfl)) hS ?_
        refine drwp_take rfl (guard_none rfl) rfl rfl (fun w_ hS_ => (ex_move rfl rfl)) hS ?_
        obtain ⟨kv3065, hc3064, hk3066⟩ : ∃ u, CellsAt _ (sb p0) (so p0 + (a3047).toNat * 8) [(.int .i64 ((gt x0 a3047).fRef.fTx)), (.int .i64 ((gt x0 a3047).fRef.fAt)), (.int .i64 ((gt x0 a3047).fOut.fValue)), u, (.int .i64 ((gt x0 a3047).fOut.fRule.fNeed)), (.int .i64 ((gt x0 a3047).fOut.fRule.fAfter)), (.int .i64 ((gt x0 a3047).fHeight)), (.bool ((gt x0 a3047).fMined))] ∧ RdS kInt _ u ((gt x0 a3047).fOut.fRule.fKeys) := rd_with1 hp0 e3063
        refine drwp_take rfl (guard_none rfl) rfl rfl (fun w_ hS_ => (ex_indexAddr (d := kCoin) rfl rfl rfl Try.underlying44 tsz123 hp0 (idx_lo e3063) (idx_hi e3063))) hS ?_
        refine drwp_take rfl (guard_none rfl) rfl rfl (fun w_ hS_ => (ex_loadN (cs := [(.int .i64 ((gt x0 a3047).fRef.fTx)), (.int .i64 ((gt x0 a3047).fRef.fAt)), (.int .i64 ((gt x0 a3047).fOut.fValue)), kv3065, (.int .i64 ((gt x0 a3047).fOut.fRule.fNeed)), (.int .i64 ((gt x0 a3047).fOut.fRule.fAfter)), (.int .i64 ((gt x0 a3047).fHeight)), (.bool ((gt x0 a3047).fMined))]) rfl rfl Try.underlying123 rfl tsz123 rfl ((hS_.at_ hc3064).sub 0 8 rfl))) hS ?_
        refine drwp_take rfl (guard_none rfl) rfl rfl (fun w_ hS_ => (ex_move rfl rfl)) hS ?_
        refine drwp_take rfl (guard_none rfl) rfl rfl (fun w_ hS_ => (ex_move rfl rfl)) hS ?_
        obtain ⟨kv3069, hc3068, hk3070⟩ : ∃ u, CellsAt _ (sb p1) (so p1 + (a3047).toNat * 8) [(.int .i64 ((gt x1 a3047).fRef.fTx)), (.int .i64 ((gt x1 a3047).fRef.fAt)), (.int .i64 ((gt x1 a3047).fOut.fValue)), u, (.int .i64 ((gt x1 a3047).fOut.fRule.fNeed)), (.int .i64 ((gt x1 a3047).fOut.fRule.fAfter)), (.int .i64 ((gt x1 a3047).fHeight)), (.bool ((gt x1 a3047).fMined))] ∧ RdS kInt _ u ((gt x1 a3047).fOut.fRule.fKeys) := rd_with1 hp1 e3067
        refine drwp_take rfl (guard_none rfl) rfl rfl (fun w_ hS_ => (ex_indexAddr (d := kCoin) rfl rfl rfl Try.underlying44 tsz123 hp1 (idx_lo e3067) (idx_hi e3067))) hS ?_
        refine drwp_take rfl (guard_none rfl) rfl rfl (fun w_ hS_ => (ex_loadN (cs := [(.int .i64 ((gt x1 a3047).fRef.fTx)), (.int .i64 ((gt x1 a3047).fRef.fAt)), (.int .i64 ((gt x1 a3047).fOut.fValue)), kv3069, (.int .i64 ((gt x1 a3047).fOut.fRule.fNeed)), (.int .i64 ((gt x1 a3047).fOut.fRule.fAfter)), (.int .i64 ((gt x1 a3047).fHeight)), (.bool ((gt x1 a3047).fMined))]) rfl rfl Try.underlying123 rfl tsz123 rfl ((hS_.at_ hc3068).sub 0 8 rfl))) hS ?_
        refine drwp_one rfl (guard_none rfl) rfl rfl (does_callk rfl callok79 rfl (laws_eqCoin.calls (x0 := (gt x0 a3047)) (x1 := (gt x1 a3047)) (HM.rd hk3066) (HM.rd hk3070) h3072)) ?_
        rintro _ w3073 ⟨rfl, hn⟩
        replace HM : Mem w [] w3073 [] := HM.call hn
        refine ⟨Mem.suf (M := []) HM, ?_⟩
        have hS := Mem.suf (M := []) HM
        refine drwp_take rfl (guard_none rfl) rfl rfl (fun w_ hS_ => (ex_not rfl rfl)) hS ?_
        refine drwp_done ?_
        refine at_then ?_
        refine run_cond (b := !t3071) rfl (fun hb3074 => ?_) (fun hb3074 => ?_)
        · replace ho3034 := cond_t hb3074 ho3034
          refine run_seq ?_
          refine run_region rfl ?_
          refine ops_ex rfl (guard_none rfl) rfl rfl (ex_assign rfl rfl) ?_
          refine ops_nil ?_
          refine at_then ?_
          refine run_ret ?_
          refine at_block_ret ?_
          refine at_then_ret ?_
          refine at_then_ret ?_
          refine at_block_ret ?_
          refine at_then_ret ?_
          have hR := Option.some.inj ho3034
          subst hR
          have hT := thn_inl H
          have hR := Option.some.inj hT
          subst hR
          exact at_ret1 rfl rfl ⟨_, rfl, rfl, HM⟩
        · replace ho3034 := cond_f hb3074 ho3034
          refine run_skip ?_
          refine at_block ?_
          refine at_then ?_
          refine run_region rfl ?_
          refine ops_ex rfl (guard_none rfl) rfl rfl (ex_move rfl rfl) ?_
          refine ops_ex rfl (guard_none rfl) rfl rfl (ex_add rfl rfl rfl) ?_
          refine ops_ex rfl (guard_none rfl) rfl rfl (ex_assign rfl rfl) ?_
          refine ops_nil ?_
          exact at_again k3060 (ρ1 := [(0, p0), (1, p1), (5, .int .i64 (wrap64 (a3047 + 1)))]) (Nat.lt_succ_self _) ⟨_, ho3034, rfl, HM⟩ (Sub.cons rfl (Sub.cons rfl (Sub.cons rfl Sub.nil)))
      · replace ho3034 := cond_f hb3062 ho3034
        refine run_exit ?_
        refine at_then_exit ?_
        refine at_then_exit ?_
        refine at_block_exit ?_
        exact at_mid (ρ' := []) ⟨(Option.some.inj ho3034), rfl, HM⟩ Sub.nil
    · rintro _ w3075 ⟨rfl, rfl, HM⟩
      replace H := (thn_inr H)
      refine run_seq ?_
      refine run_region rfl ?_
      refine ops_ex rfl (guard_none rfl) rfl rfl (ex_assign rfl rfl) ?_
      refine ops_nil ?_
      refine at_then ?_
      refine run_ret ?_
      have hR := Option.some.inj H
      subst hR
      exact at_ret1 rfl rfl ⟨_, rfl, rfl, HM⟩

def laws_eqCoinsResult.f (k : Nat) (x0 : CoinsResult) (x1 : CoinsResult) : Option Bool := (bif (x0.fCode != x1.fCode) then some false else ((laws_eqCoinS.f k x0.fCoins x1.fCoins).bind fun t3089 => (bif !t3089 then some false else some true)))
theorem laws_eqCoinsResult.calls {k : Nat} {x0 : CoinsResult} {x1 : CoinsResult} {p0_0 : Value} {p1_0 : Value} {w : World} (hp0_0 : RdS kCoin w p0_0 x0.fCoins) (hp1_0 : RdS kCoin w p1_0 x1.fCoins) {r : Bool} (H : laws_eqCoinsResult.f k x0 x1 = some r) :
    Calls Try.prog 27 ([.agg #[(.int .i64 x0.fCode), p0_0], .agg #[(.int .i64 x1.fCode), p1_0]] : List Value).toArray w (fun e w_ => ∃ v, e = .returned v ∧ v = (.bool r) ∧ Mem w [] w_ []) := by
  have HM := Mem.start w
  refine calls_run (N := 16) Try.func27 rfl rfl rfl rfl ?_
  unfold laws_eqCoinsResult.f at H
  refine run_seq ?_
  refine run_region rfl ?_
  refine ops_does rfl (guard_none rfl) rfl rfl (does_box (cs := [.int .i64 x0.fCode, p0_0]) rfl rfl rfl HM) ?_
  rintro _ w3085 ⟨b3079, rfl, HM⟩
  refine ops_does rfl (guard_none rfl) rfl rfl (does_box (cs := [.int .i64 x1.fCode, p1_0]) rfl rfl rfl HM) ?_
  rintro _ w3086 ⟨b3082, rfl, HM⟩
  refine ops_ex rfl (guard_none rfl) rfl rfl (ex_assign rfl rfl) ?_
  refine ops_nil ?_
  refine at_then ?_
  refine run_seq ?_
  refine run_seq ?_
  refine run_region rfl ?_
  refine ops_ex rfl (guard_none rfl) rfl rfl (ex_fieldAddr (off' := 0) rfl rfl Try.underlying52 rfl tsz2 rfl) ?_
  refine ops_ex rfl (guard_none rfl) rfl rfl (ex_load1 rfl rfl Try.underlying2 rfl ((HM.box_at 1 rfl) 0 _ rfl)) ?_
  refine ops_ex rfl (guard_none rfl) rfl rfl (ex_fieldAddr (off' := 0) rfl rfl Try.underlying52 rfl tsz2 rfl) ?_
  refine ops_ex rfl (guard_none rfl) rfl rfl (ex_load1 rfl rfl Try.underlying2 rfl ((HM.box_at 0 rfl) 0 _ rfl)) ?_
  refine ops_ex rfl (guard_none rfl) rfl rfl (ex_neq rfl rfl rfl) ?_
  refine ops_nil ?_
  refine at_then ?_
  refine run_cond (b := (x0.fCode != x1.fCode)) rfl (fun hb3088 => ?_) (fun hb3088 => ?_)
  · replace H := cond_t hb3088 H
    refine run_seq ?_
    refine run_region rfl ?_
    refine ops_ex rfl (guard_none rfl) rfl rfl (ex_assign rfl rfl) ?_
    refine ops_nil ?_
    refine at_then ?_
    refine run_ret ?_
    refine at_then_ret ?_
    replace HM := (HM.front 0 rfl rfl).drop
    replace HM := (HM.front 0 rfl rfl).drop
    have hR := Option.some.inj H
    subst hR
    exact at_ret1 rfl rfl ⟨_, rfl, rfl, HM⟩
  · replace H := cond_f hb3088 H
    refine run_skip ?_
    refine at_then ?_
    refine run_seq ?_
    refine run_seq ?_
    obtain ⟨t3089, h3090, H⟩ := bind_some H
    refine run_region rfl ?_
    refine ops_ex rfl (guard_none rfl) rfl rfl (ex_fieldAddr (off' := 1) rfl rfl Try.underlying52 rfl tsz44 rfl) ?_
    refine ops_ex rfl (guard_none rfl) rfl rfl (ex_load1 rfl rfl Try.underlying44 rfl ((HM.box_at 1 rfl) 1 _ rfl)) ?_
    refine ops_ex rfl (guard_none rfl) rfl rfl (ex_fieldAddr (off' := 1) rfl rfl Try.underlying52 rfl tsz44 rfl) ?_
    refine ops_ex rfl (guard_none rfl) rfl rfl (ex_load1 rfl rfl Try.underlying44 rfl ((HM.box_at 0 rfl) 1 _ rfl)) ?_
    refine ops_does rfl (guard_none rfl) rfl rfl (does_callk rfl callok23 rfl (laws_eqCoinS.calls (x0 := x0.fCoins) (x1 := x1.fCoins) (HM.rd hp0_0) (HM.rd hp1_0) h3090)) ?_
    rintro _ w3091 ⟨rfl, hn⟩
    replace HM : Mem w [] w3091 [box b3082 52 [.int .i64 x1.fCode, p1_0], box b3079 52 [.int .i64 x0.fCode, p0_0]] := HM.call hn
    refine ops_ex rfl (guard_none rfl) rfl rfl (ex_not rfl rfl) ?_
    refine ops_nil ?_
    refine at_then ?_
    refine run_cond (b := !t3089) rfl (fun hb3092 => ?_) (fun hb3092 => ?_)
    · replace H := cond_t hb3092 H
      refine run_seq ?_
      refine run_region rfl ?_
      refine ops_ex rfl (guard_none rfl) rfl rfl (ex_assign rfl rfl) ?_
      refine ops_nil ?_
      refine at_then ?_
      refine run_ret ?_
      refine at_then_ret ?_
      replace HM := (HM.front 0 rfl rfl).drop
      replace HM := (HM.front 0 rfl rfl).drop
      have hR := Option.some.inj H
      subst hR
      exact at_ret1 rfl rfl ⟨_, rfl, rfl, HM⟩
    · replace H := cond_f hb3092 H
      refine run_skip ?_
      refine at_then ?_
      refine run_seq ?_
      refine run_region rfl ?_
      refine ops_ex rfl (guard_none rfl) rfl rfl (ex_assign rfl rfl) ?_
      refine ops_nil ?_
      refine at_then ?_
      refine run_ret ?_
      replace HM := (HM.front 0 rfl rfl).drop
      replace HM := (HM.front 0 rfl rfl).drop
      have hR := Option.some.inj H
      subst hR
      exact at_ret1 rfl rfl ⟨_, rfl, rfl, HM⟩

def laws_markInt64S.l0  : Nat → (List Int) → Int → Int → Option ((List Int) × Int)
  | 0, _, _, _ => none
  | k + 1, a3164, a3166, a3167 => (bif (decide (a3167 < (a3164.length : Int))) then (chk (idxOk a3167 a3164.length) (laws_markInt64S.l0 k (a3164.set (a3167).toNat a3166) (wrap64 (a3166 + 1)) (wrap64 (a3167 + 1)))) else some (a3164, a3166))
theorem laws_markInt64S.l0_z  (a3164 : List Int) (a3166 : Int) (a3167 : Int) : laws_markInt64S.l0 0 a3164 a3166 a3167 = none := rfl
theorem laws_markInt64S.l0_s  (k : Nat) (a3164 : List Int) (a3166 : Int) (a3167 : Int) : laws_markInt64S.l0 (k + 1) a3164 a3166 a3167 = (bif (decide (a3167 < (a3164.length : Int))) then (chk (idxOk a3167 a3164.length) (laws_markInt64S.l0 k (a3164.set (a3167).toNat a3166) (wrap64 (a3166 + 1)) (wrap64 (a3167 + 1)))) else some (a3164, a3166)) := rfl
def laws_markInt64S.f (k : Nat) (x0 : List Int) (x1 : Int) : Option (Int × (List Int)) := ((laws_markInt64S.l0 k x0 x1 0).bind (cur2 (fun a3157 a3159 => some (a3159, a3157))))
theorem laws_markInt64S.calls {k : Nat} {x0 : List Int} {x1 : Int} {p0 : Value} {w wo : World} {X : List Nat} (hwo : Olds wo w X) (hX : Hold w [own kInt 2 p0 x0] X) (hXn : X.Nodup) (hXl : ∀ b ∈ X, b < w.heap.size)  {r : Int × (List Int)} (H : laws_markInt64S.f k x0 x1 = some r) :
    Calls Try.prog 84 ([p0, .int .i64 x1] : List Value).toArray w (fun e w_ => ∃ v, e = .returned v ∧ v = (.int .i64 r.1) ∧ Mem w X w_ [own kInt 2 p0 r.2]) := by
  have HM := Mem.startX hX hXn hXl
  refine calls_run (N := 19) Try.func84 rfl rfl rfl rfl ?_
  unfold laws_markInt64S.f at H
  refine run_seq ?_
  refine run_region rfl ?_
  refine ops_ex rfl (guard_none rfl) rfl rfl (ex_assign rfl rfl) ?_
  refine ops_nil ?_
  refine at_then ?_
  obtain ⟨o3160, ho3161, H⟩ := bind_some H
  refine run_mid (fun ρ_ w_ => ∃ a3157 : List Int, ∃ a3159 : Int, (a3157, a3159) = o3160 ∧ ρ_ = [(1, .int .i64 a3159)] ∧ Mem w X w_ [own kInt 2 p0 a3157]) ?_ ?_
  · clear H
    refine run_seq ?_
    refine run_region rfl ?_
    refine ops_ex rfl (guard_none rfl) rfl rfl (ex_assign rfl rfl) ?_
    refine ops_nil ?_
    refine at_then ?_
    refine run_block ?_
    refine run_loop (fun k_ ρ_ w_ => ∃ a3164 : List Int, ∃ a3166 : Int, ∃ a3167 : Int, laws_markInt64S.l0 k_ a3164 a3166 a3167 = some o3160 ∧ ρ_ = [(0, p0), (1, .int .i64 a3166), (5, .int .i64 a3167)] ∧ Mem w X w_ [own kInt 2 p0 a3164]) k (ρ1 := [(0, p0), (1, .int .i64 x1), (5, .int .i64 0)]) ⟨_, _, _, ho3161, rfl, HM⟩ (Sub.cons rfl (Sub.cons rfl (Sub.cons rfl Sub.nil))) ?_
    clear HM ho3161
    rintro k3170 _ w3171 ⟨a3164, a3166, a3167, ho3161, rfl, HM⟩
    obtain _ | k3170 := k3170
    · exact nomatch ((laws_markInt64S.l0_z a3164 a3166 a3167).symm.trans ho3161)
    replace ho3161 := (laws_markInt64S.l0_s k3170 a3164 a3166 a3167).symm.trans ho3161
    refine run_seq ?_
    refine run_seq ?_
    refine run_region rfl ?_
    refine ops_ex rfl (guard_none rfl) rfl rfl (ex_move rfl rfl) ?_
    refine ops_ex rfl (guard_none rfl) rfl rfl (ex_move rfl rfl) ?_
    refine ops_ex rfl (guard_none rfl) rfl rfl (ex_len (d := kInt) (xs := a3164) rfl rfl Try.underlying111 (HM.own_rd 0 rfl)) ?_
    refine ops_ex rfl (guard_none rfl) rfl rfl (ex_lss rfl rfl rfl) ?_
    refine ops_nil ?_
    refine at_then ?_
    refine run_cond (b := (decide (a3167 < (a3164.length : Int)))) rfl (fun hb3172 => ?_) (fun hb3172 => ?_)
    · replace ho3161 := cond_t hb3172 ho3161
      refine run_skip ?_
      refine at_then ?_
      refine run_seq ?_
      refine run_block ?_
      refine run_seq ?_
      obtain ⟨e3173, ho3161⟩ := chk_some ho3161
      refine run_region rfl ?_
      refine ops_ex rfl (guard_none rfl) rfl rfl (ex_move rfl rfl) ?_
      refine ops_ex rfl (guard_none rfl) rfl rfl (ex_move rfl rfl) ?_
      refine ops_ex rfl (guard_none rfl) rfl rfl (ex_move rfl rfl) ?_
      refine ops_ex rfl (guard_none rfl) rfl rfl (ex_indexAddr (d := kInt) rfl rfl rfl Try.underlying111 tsz2 (HM.own_rd 0 rfl) (idx_lo e3173) (idx_hi e3173)) ?_
      refine ops_doesS rfl (guard_none rfl) rfl (does_setElem (vs := [(.int .i64 a3166)]) (y := a3166) kInt rfl rfl rfl rfl rfl tsz2 rfl rfl (idx_nat e3173) (fun _ _ h => ⟨rfl, h⟩) (HM.emp.front 1 rfl rfl)) ?_
      rintro w3174 HM
      refine ops_nil ?_
      refine at_then ?_
      refine run_region rfl ?_
      refine ops_ex rfl (guard_none rfl) rfl rfl (ex_move rfl rfl) ?_
      refine ops_ex rfl (guard_none rfl) rfl rfl (ex_add rfl rfl rfl) ?_
      refine ops_ex rfl (guard_none rfl) rfl rfl (ex_assign rfl rfl) ?_
      refine ops_nil ?_
      refine at_block ?_
      refine at_then ?_
      refine run_region rfl ?_
      refine ops_ex rfl (guard_none rfl) rfl rfl (ex_move rfl rfl) ?_
      refine ops_ex rfl (guard_none rfl) rfl rfl (ex_add rfl rfl rfl) ?_
      refine ops_ex rfl (guard_none rfl) rfl rfl (ex_assign rfl rfl) ?_
      refine ops_nil ?_
      exact at_again k3170 (ρ1 := [(0, p0), (1, .int .i64 (wrap64 (a3166 + 1))), (5, .int .i64 (wrap64 (a3167 + 1)))]) (Nat.lt_succ_self _) ⟨_, _, _, ho3161, rfl, HM⟩ (Sub.cons rfl (Sub.cons rfl (Sub.cons rfl Sub.nil)))
    · replace ho3161 := cond_f hb3172 ho3161
      refine run_exit ?_
      refine at_then_exit ?_
      refine at_then_exit ?_
      refine at_block_exit ?_
      exact at_mid (ρ' := [(1, .int .i64 a3166)]) ⟨_, _, (Option.some.inj ho3161), rfl, HM⟩ (Sub.cons rfl Sub.nil)
  · rintro _ w3175 ⟨a3157, a3159, rfl, rfl, HM⟩
    replace H := cur2_mk H
    refine run_seq ?_
    refine run_region rfl ?_
    refine ops_ex rfl (guard_none rfl) rfl rfl (ex_move rfl rfl) ?_
    refine ops_ex rfl (guard_none rfl) rfl rfl (ex_assign rfl rfl) ?_
    refine ops_nil ?_
    refine at_then ?_
    refine run_ret ?_
    have hR := Option.some.inj H
    subst hR
    exact at_ret1 rfl rfl ⟨_, rfl, rfl, HM⟩

def laws_markCoinS.l0  : Nat → (List Coin) → Int → Int → Option ((List Coin) × Int)
  | 0, _, _, _ => none
  | k + 1, a3339, a3341, a3342 => (bif (decide (a3342 < (a3339.length : Int))) then (chk (idxOk a3342 a3339.length) ((laws_markInt64S.f k ((gt a3339 a3342).fOut.fRule.fKeys) (wrap64 ((wrap64 ((wrap64 (a3341 + 1)) + 1)) + 1))).bind fun t3379 => (chk ((3 : Int) != 0) (laws_markCoinS.l0 k (a3339.set (a3342).toNat (⟨(⟨a3341, wrap64 (a3341 + 1)⟩ : Ref), (⟨wrap64 ((wrap64 (a3341 + 1)) + 1), (⟨t3379.2, t3379.1, wrap64 (t3379.1 + 1)⟩ : Rule)⟩ : Out), wrap64 ((wrap64 (t3379.1 + 1)) + 1), ((Int.tmod (wrap64 ((wrap64 ((wrap64 (t3379.1 + 1)) + 1)) + 1)) (3 : Int)) == 0)⟩ : Coin)) (wrap64 ((wrap64 ((wrap64 ((wrap64 (t3379.1 + 1)) + 1)) + 1)) + 1)) (wrap64 (a3342 + 1)))))) else some (a3339, a3341))
theorem laws_markCoinS.l0_z  (a3339 : List Coin) (a3341 : Int) (a3342 : Int) : laws_markCoinS.l0 0 a3339 a3341 a3342 = none := rfl
theorem laws_markCoinS.l0_s  (k : Nat) (a3339 : List Coin) (a3341 : Int) (a3342 : Int) : laws_markCoinS.l0 (k + 1) a3339 a3341 a3342 = (bif (decide (a3342 < (a3339.length : Int))) then (chk (idxOk a3342 a3339.length) ((laws_markInt64S.f k ((gt a3339 a3342).fOut.fRule.fKeys) (wrap64 ((wrap64 ((wrap64 (a3341 + 1)) + 1)) + 1))).bind fun t3379 => (chk ((3 : Int) != 0) (laws_markCoinS.l0 k (a3339.set (a3342).toNat (⟨(⟨a3341, wrap64 (a3341 + 1)⟩ : Ref), (⟨wrap64 ((wrap64 (a3341 + 1)) + 1), (⟨t3379.2, t3379.1, wrap64 (t3379.1 + 1)⟩ : Rule)⟩ : Out), wrap64 ((wrap64 (t3379.1 + 1)) + 1), ((Int.tmod (wrap64 ((wrap64 ((wrap64 (t3379.1 + 1)) + 1)) + 1)) (3 : Int)) == 0)⟩ : Coin)) (wrap64 ((wrap64 ((wrap64 ((wrap64 (t3379.1 + 1)) + 1)) + 1)) + 1)) (wrap64 (a3342 + 1)))))) else some (a3339, a3341)) := rfl
def laws_markCoinS.f (k : Nat) (x0 : List Coin) (x1 : Int) : Option (Int × (List Coin)) := ((laws_markCoinS.l0 k x0 x1 0).bind (cur2 (fun a3312 a3314 => some (a3314, a3312))))
theorem laws_markCoinS.calls {k : Nat} {x0 : List Coin} {x1 : Int} {p0 : Value} {w wo : World} {X : List Nat} (hwo : Olds wo w X) (hX : Hold w [own kCoin 123 p0 x0] X) (hXn : X.Nodup) (hXl : ∀ b ∈ X, b < w.heap.size)  {r : Int × (List Coin)} (H : laws_markCoinS.f k x0 x1 = some r) :
    Calls Try.prog 28 ([p0, .int .i64 x1] : List Value).toArray w (fun e w_ => ∃ v, e = .returned v ∧ v = (.int .i64 r.1) ∧ Mem w X w_ [own kCoin 123 p0 r.2]) := by
  have HM := Mem.startX hX hXn hXl
  refine calls_run (N := 80) Try.func28 rfl rfl rfl rfl ?_
  unfold laws_markCoinS.f at H
  refine run_seq ?_
  refine run_region rfl ?_
  refine ops_ex rfl (guard_none rfl) rfl rfl (ex_assign rfl rfl) ?_
  refine ops_nil ?_
  refine at_then ?_
  obtain ⟨o3315, ho3316, H⟩ := bind_some H
  refine run_mid (fun ρ_ w_ => ∃ a3312 : List Coin, ∃ a3314 : Int, (a3312, a3314) = o3315 ∧ ρ_ = [(1, .int .i64 a3314)] ∧ Mem w X w_ [own kCoin 123 p0 a3312]) ?_ ?_
  · clear H
    refine run_seq ?_
    refine run_region rfl ?_
    refine ops_ex rfl (guard_none rfl) rfl rfl (ex_assign rfl rfl) ?_
    refine ops_nil ?_
    refine at_then ?_
    refine run_block ?_
    refine run_loop (fun k_ ρ_ w_ => ∃ a3339 : List Coin, ∃ a3341 : Int, ∃ a3342 : Int, laws_markCoinS.l0 k_ a3339 a3341 a3342 = some o3315 ∧ ρ_ = [(0, p0), (1, .int .i64 a3341), (5, .int .i64 a3342)] ∧ Mem w X w_ [own kCoin 123 p0 a3339]) k (ρ1 := [(0, p0), (1, .int .i64 x1), (5, .int .i64 0)]) ⟨_, _, _, ho3316, rfl, HM⟩ (Sub.cons rfl (Sub.cons rfl (Sub.cons rfl Sub.nil))) ?_
    clear HM ho3316
    rintro k3365 _ w3366 ⟨a3339, a3341, a3342, ho3316, rfl, HM⟩
    obtain _ | k3365 := k3365
    · exact nomatch ((laws_markCoinS.l0_z a3339 a3341 a3342).symm.trans ho3316)
    replace ho3316 := (laws_markCoinS.l0_s k3365 a3339 a3341 a3342).symm.trans ho3316
    refine run_seq ?_
    refine run_seq ?_
    refine run_region rfl ?_
    refine ops_ex rfl (guard_none rfl) rfl rfl (ex_move rfl rfl) ?_
    refine ops_ex rfl (guard_none rfl) rfl rfl (ex_move rfl rfl) ?_
    refine ops_ex rfl (guard_none rfl) rfl rfl (ex_len (d := kCoin) (xs := a3339) rfl rfl Try.underlying44 (HM.own_rd 0 rfl)) ?_
    refine ops_ex rfl (guard_none rfl) rfl rfl (ex_lss rfl rfl rfl) ?_
    refine ops_nil ?_
    refine at_then ?_
    refine run_cond (b := (decide (a3342 < (a3339.length : Int)))) rfl (fun hb3367 => ?_) (fun hb3367 => ?_)
    · replace ho3316 := cond_t hb3367 ho3316
      refine run_skip ?_
      refine at_then ?_
      refine run_seq ?_
      refine run_block ?_
      refine run_seq ?_
      obtain ⟨e3368, ho3316⟩ := chk_some ho3316
      refine run_region rfl ?_
      refine ops_ex rfl (guard_none rfl) rfl rfl (ex_move rfl rfl) ?_
      refine ops_ex rfl (guard_none rfl) rfl rfl (ex_move rfl rfl) ?_
      refine ops_ex rfl (guard_none rfl) rfl rfl (ex_move rfl rfl) ?_
      refine ops_ex rfl (guard_none rfl) rfl rfl (ex_indexAddr (d := kCoin) rfl rfl rfl Try.underlying44 tsz123 (HM.own_rd 0 rfl) (idx_lo e3368) (idx_hi e3368)) ?_
      refine ops_ex rfl (guard_none rfl) rfl rfl (ex_fieldAddr (off' := so p0 + (a3342).toNat * 8) rfl rfl Try.underlying123 rfl tsz54 rfl) ?_
      refine ops_ex rfl (guard_none rfl) rfl rfl (ex_fieldAddr (off' := so p0 + (a3342).toNat * 8) rfl rfl Try.underlying54 rfl tsz2 rfl) ?_
      refine ops_doesS rfl (guard_none rfl) rfl (does_setField (fo := 0) (vs := [(.int .i64 a3341)]) (y := (⟨(⟨a3341, (gt a3339 a3342).fRef.fAt⟩ : Ref), (gt a3339 a3342).fOut, (gt a3339 a3342).fHeight, (gt a3339 a3342).fMined⟩ : Coin)) kCoin rfl rfl rfl rfl rfl tsz2 (Ones.int Ones.nil) rfl rfl (idx_nat e3368) (fun _ _ _ h => by rw [← gt_eq (idx_nat e3368)] at h; obtain ⟨_, rfl, h2⟩ := h; exact ⟨_, rfl, h2⟩) HM) ?_
      rintro w3369 HM
      refine ops_nil ?_
      refine at_then ?_
      refine run_seq ?_
      refine run_region rfl ?_
      refine ops_ex rfl (guard_none rfl) rfl rfl (ex_move rfl rfl) ?_
      refine ops_ex rfl (guard_none rfl) rfl rfl (ex_add rfl rfl rfl) ?_
      refine ops_ex rfl (guard_none rfl) rfl rfl (ex_assign rfl rfl) ?_
      refine ops_nil ?_
      refine at_then ?_
      refine run_seq ?_
      refine run_region rfl ?_
      refine ops_ex rfl (guard_none rfl) rfl rfl (ex_move rfl rfl) ?_
      refine ops_ex rfl (guard_none rfl) rfl rfl (ex_move rfl rfl) ?_
      refine ops_ex rfl (guard_none rfl) rfl rfl (ex_move rfl rfl) ?_
      have e3370 : idxOk a3342 (a3339.set (a3342).toNat (⟨(⟨a3341, (gt a3339 a3342).fRef.fAt⟩ : Ref), (gt a3339 a3342).fOut, (gt a3339 a3342).fHeight, (gt a3339 a3342).fMined⟩ : Coin)).length = true := len_set e3368
      refine ops_ex rfl (guard_none rfl) rfl rfl (ex_indexAddr (d := kCoin) rfl rfl rfl Try.underlying44 tsz123 (HM.own_rd 0 rfl) (idx_lo e3370) (idx_hi e3370)) ?_
      refine ops_ex rfl (guard_none rfl) rfl rfl (ex_fieldAddr (off' := so p0 + (a3342).toNat * 8) rfl rfl Try.underlying123 rfl tsz54 rfl) ?_
      refine ops_ex rfl (guard_none rfl) rfl rfl (ex_fieldAddr (off' := so p0 + (a3342).toNat * 8 + 1) rfl rfl Try.underlying54 rfl tsz2 rfl) ?_
      refine ops_doesS rfl (guard_none rfl) rfl (does_setField (fo := 1) (vs := [(.int .i64 (wrap64 (a3341 + 1)))]) (y := (⟨(⟨a3341, wrap64 (a3341 + 1)⟩ : Ref), (gt a3339 a3342).fOut, (gt a3339 a3342).fHeight, (gt a3339 a3342).fMined⟩ : Coin)) kCoin rfl rfl rfl rfl rfl tsz2 (Ones.int Ones.nil) rfl rfl (idx_nat e3370) (fun _ _ _ h => by rw [List.getElem_set_self] at h; obtain ⟨_, rfl, h2⟩ := h; exact ⟨_, rfl, h2⟩) HM) ?_
      rintro w3371 HM
      replace HM := HM.set2
      refine ops_nil ?_
      refine at_then ?_
      refine run_seq ?_
      refine run_region rfl ?_
      refine ops_ex rfl (guard_none rfl) rfl rfl (ex_move rfl rfl) ?_
      refine ops_ex rfl (guard_none rfl) rfl rfl (ex_add rfl rfl rfl) ?_
      refine ops_ex rfl (guard_none rfl) rfl rfl (ex_assign rfl rfl) ?_
      refine ops_nil ?_
      refine at_then ?_
      refine run_seq ?_
      refine run_region rfl ?_
      refine ops_ex rfl (guard_none rfl) rfl rfl (ex_move rfl rfl) ?_
      refine ops_ex rfl (guard_none rfl) rfl rfl (ex_move rfl rfl) ?_
      refine ops_ex rfl (guard_none rfl) rfl rfl (ex_move rfl rfl) ?_
      have e3372 : idxOk a3342 (a3339.set (a3342).toNat (⟨(⟨a3341, wrap64 (a3341 + 1)⟩ : Ref), (gt a3339 a3342).fOut, (gt a3339 a3342).fHeight, (gt a3339 a3342).fMined⟩ : Coin)).length = true := len_set e3368
      refine ops_ex rfl (guard_none rfl) rfl rfl (ex_indexAddr (d := kCoin) rfl rfl rfl Try.underlying44 tsz123 (HM.own_rd 0 rfl) (idx_lo e3372) (idx_hi e3372)) ?_
      refine ops_ex rfl (guard_none rfl) rfl rfl (ex_fieldAddr (off' := so p0 + (a3342).toNat * 8 + 2) rfl rfl Try.underlying123 rfl tsz121 rfl) ?_
      refine ops_ex rfl (guard_none rfl) rfl rfl (ex_fieldAddr (off' := so p0 + (a3342).toNat * 8 + 2) rfl rfl Try.underlying121 rfl tsz2 rfl) ?_
      refine ops_doesS rfl (guard_none rfl) rfl (does_setField (fo := 2) (vs := [(.int .i64 (wrap64 ((wrap64 (a3341 + 1)) + 1)))]) (y := (⟨(⟨a3341, wrap64 (a3341 + 1)⟩ : Ref), (⟨wrap64 ((wrap64 (a3341 + 1)) + 1), (gt a3339 a3342).fOut.fRule⟩ : Out), (gt a3339 a3342).fHeight, (gt a3339 a3342).fMined⟩ : Coin)) kCoin rfl rfl rfl rfl rfl tsz2 (Ones.int Ones.nil) rfl rfl (idx_nat e3372) (fun _ _ _ h => by rw [List.getElem_set_self] at h; obtain ⟨_, rfl, h2⟩ := h; exact ⟨_, rfl, h2⟩) HM) ?_
      rintro w3373 HM
      replace HM := HM.set2
      refine ops_nil ?_
      refine at_then ?_
      refine run_seq ?_
      refine run_region rfl ?_
      refine ops_ex rfl (guard_none rfl) rfl rfl (ex_move rfl rfl) ?_
      refine ops_ex rfl (guard_none rfl) rfl rfl (ex_add rfl rfl rfl) ?_
      refine ops_ex rfl (guard_none rfl) rfl rfl (ex_assign rfl rfl) ?_
      refine ops_nil ?_
      refine at_then ?_
      refine run_seq ?_
      obtain ⟨t3379, h3380, ho3316⟩ := bind_some ho3316
      refine run_region rfl ?_
      refine ops_ex rfl (guard_none rfl) rfl rfl (ex_move rfl rfl) ?_
      refine ops_ex rfl (guard_none rfl) rfl rfl (ex_move rfl rfl) ?_
      have e3374 : idxOk a3342 (a3339.set (a3342).toNat (⟨(⟨a3341, wrap64 (a3341 + 1)⟩ : Ref), (⟨wrap64 ((wrap64 (a3341 + 1)) + 1), (gt a3339 a3342).fOut.fRule⟩ : Out), (gt a3339 a3342).fHeight, (gt a3339 a3342).fMined⟩ : Coin)).length = true := len_set e3368
      refine ops_ex rfl (guard_none rfl) rfl rfl (ex_indexAddr (d := kCoin) rfl rfl rfl Try.underlying44 tsz123 (HM.own_rd 0 rfl) (idx_lo e3374) (idx_hi e3374)) ?_
      refine ops_ex rfl (guard_none rfl) rfl rfl (ex_fieldAddr (off' := so p0 + (a3342).toNat * 8 + 2) rfl rfl Try.underlying123 rfl tsz121 rfl) ?_
      refine ops_ex rfl (guard_none rfl) rfl rfl (ex_fieldAddr (off' := so p0 + (a3342).toNat * 8 + 3) rfl rfl Try.underlying121 rfl tsz119 rfl) ?_
      refine ops_ex rfl (guard_none rfl) rfl rfl (ex_fieldAddr (off' := so p0 + (a3342).toNat * 8 + 3) rfl rfl Try.underlying119 rfl tsz111 rfl) ?_
      obtain ⟨u3375, hc3376, HM⟩ := HM.open1 e3374 (gt_set2 e3368)
      refine ops_ex rfl (guard_none rfl) rfl rfl (ex_load1 rfl rfl Try.underlying111 rfl (hc3376 3 _ rfl)) ?_
      refine ops_ex rfl (guard_none rfl) rfl rfl (ex_move rfl rfl) ?_
      obtain ⟨F3381, hF3382, hFn3383, hFl3384, HMh3385, hcl3386⟩ := HM.hide (Ms := [own kInt 2 u3375 ((gt a3339 a3342).fOut.fRule.fKeys)])
      refine ops_does rfl (guard_none rfl) rfl rfl (does_callk rfl callok84 rfl (laws_markInt64S.calls (x0 := (gt a3339 a3342).fOut.fRule.fKeys) (x1 := wrap64 ((wrap64 ((wrap64 (a3341 + 1)) + 1)) + 1)) (hide_olds _ _) hF3382 hFn3383 hFl3384 h3380)) ?_
      rintro _ w3387 ⟨rfl, hn⟩
      replace HM : Mem w X w3387 [own kInt 2 u3375 t3379.2, hole kCoin (fun u_ => [(.int .i64 a3341), (.int .i64 (wrap64 (a3341 + 1))), (.int .i64 (wrap64 ((wrap64 (a3341 + 1)) + 1))), u_, (.int .i64 ((gt a3339 a3342).fOut.fRule.fNeed)), (.int .i64 ((gt a3339 a3342).fOut.fRule.fAfter)), (.int .i64 ((gt a3339 a3342).fHeight)), (.bool ((gt a3339 a3342).fMined))]) 123 p0 (a3339.set (a3342).toNat (⟨(⟨a3341, wrap64 (a3341 + 1)⟩ : Ref), (⟨wrap64 ((wrap64 (a3341 + 1)) + 1), (gt a3339 a3342).fOut.fRule⟩ : Out), (gt a3339 a3342).fHeight, (gt a3339 a3342).fMined⟩ : Coin)) (a3342).toNat u3375] := hcl3386 _ _ hn
      replace HM := HM.front 1 rfl rfl
      replace HM := HM.front 1 rfl rfl
      replace HM := Mem.close1 (⟨(⟨a3341, wrap64 (a3341 + 1)⟩ : Ref), (⟨wrap64 ((wrap64 (a3341 + 1)) + 1), (⟨t3379.2, (gt a3339 a3342).fOut.fRule.fNeed, (gt a3339 a3342).fOut.fRule.fAfter⟩ : Rule)⟩ : Out), (gt a3339 a3342).fHeight, (gt a3339 a3342).fMined⟩ : Coin) HM rfl rfl
      replace HM := HM.set2
      refine ops_ex rfl (guard_none rfl) rfl rfl (ex_assign rfl rfl) ?_
      refine ops_nil ?_
      refine at_then ?_
      refine run_seq ?_
      refine run_region rfl ?_
      refine ops_ex rfl (guard_none rfl) rfl rfl (ex_move rfl rfl) ?_
      refine ops_ex rfl (guard_none rfl) rfl rfl (ex_move rfl rfl) ?_
      refine ops_ex rfl (guard_none rfl) rfl rfl (ex_move rfl rfl) ?_
      have e3388 : idxOk a3342 (a3339.set (a3342).toNat (⟨(⟨a3341, wrap64 (a3341 + 1)⟩ : Ref), (⟨wrap64 ((wrap64 (a3341 + 1)) + 1), (⟨t3379.2, (gt a3339 a3342).fOut.fRule.fNeed, (gt a3339 a3342).fOut.fRule.fAfter⟩ : Rule)⟩ : Out), (gt a3339 a3342).fHeight, (gt a3339 a3342).fMined⟩ : Coin)).length = true := len_set e3368
      refine ops_ex rfl (guard_none rfl) rfl rfl (ex_indexAddr (d := kCoin) rfl rfl rfl Try.underlying44 tsz123 (HM.own_rd 0 rfl) (idx_lo e3388) (idx_hi e3388)) ?_
      refine ops_ex rfl (guard_none rfl) rfl rfl (ex_fieldAddr (off' := so p0 + (a3342).toNat * 8 + 2) rfl rfl Try.underlying123 rfl tsz121 rfl) ?_
      refine ops_ex rfl (guard_none rfl) rfl rfl (ex_fieldAddr (off' := so p0 + (a3342).toNat * 8 + 3) rfl rfl Try.underlying121 rfl tsz119 rfl) ?_
      refine ops_ex rfl (guard_none rfl) rfl rfl (ex_fieldAddr (off' := so p0 + (a3342).toNat * 8 + 4) rfl rfl Try.underlying119 rfl tsz2 rfl) ?_
      refine ops_doesS rfl (guard_none rfl) rfl (does_setField (fo := 4) (vs := [(.int .i64 t3379.1)]) (y := (⟨(⟨a3341, wrap64 (a3341 + 1)⟩ : Ref), (⟨wrap64 ((wrap64 (a3341 + 1)) + 1), (⟨t3379.2, t3379.1, (gt a3339 a3342).fOut.fRule.fAfter⟩ : Rule)⟩ : Out), (gt a3339 a3342).fHeight, (gt a3339 a3342).fMined⟩ : Coin)) kCoin rfl rfl rfl rfl rfl tsz2 (Ones.int Ones.nil) rfl rfl (idx_nat e3388) (fun _ _ _ h => by rw [List.getElem_set_self] at h; obtain ⟨_, rfl, h2⟩ := h; exact ⟨_, rfl, h2⟩) HM) ?_
      rintro w3389 HM
      replace HM := HM.set2
      refine ops_nil ?_
      refine at_then ?_
      refine run_seq ?_
      refine run_region rfl ?_
      refine ops_ex rfl (guard_none rfl) rfl rfl (ex_move rfl rfl) ?_
      refine ops_ex rfl (guard_none rfl) rfl rfl (ex_add rfl rfl rfl) ?_
      refine ops_ex rfl (guard_none rfl) rfl rfl (ex_assign rfl rfl) ?_
      refine ops_nil ?_
      refine at_then ?_
      refine run_seq ?_
      refine run_region rfl ?_
      refine ops_ex rfl (guard_none rfl) rfl rfl (ex_move rfl rfl) ?_
      refine ops_ex rfl (guard_none rfl) rfl rfl (ex_move rfl rfl) ?_
      refine ops_ex rfl (guard_none rfl) rfl rfl (ex_move rfl rfl) ?_
      have e3390 : idxOk a3342 (a3339.set (a3342).toNat (⟨(⟨a3341, wrap64 (a3341 + 1)⟩ : Ref), (⟨wrap64 ((wrap64 (a3341 + 1)) + 1), (⟨t3379.2, t3379.1, (gt a3339 a3342).fOut.fRule.fAfter⟩ : Rule)⟩ : Out), (gt a3339 a3342).fHeight, (gt a3339 a3342).fMined⟩ : Coin)).length = true := len_set e3368
      refine ops_ex rfl (guard_none rfl) rfl rfl (ex_indexAddr (d := kCoin) rfl rfl rfl Try.underlying44 tsz123 (HM.own_rd 0 rfl) (idx_lo e3390) (idx_hi e3390)) ?_
      refine ops_ex rfl (guard_none rfl) rfl rfl (ex_fieldAddr (off' := so p0 + (a3342).toNat * 8 + 2) rfl rfl Try.underlying123 rfl tsz121 rfl) ?_
      refine ops_ex rfl (guard_none rfl) rfl rfl (ex_fieldAddr (off' := so p0 + (a3342).toNat * 8 + 3) rfl rfl Try.underlying121 rfl tsz119 rfl) ?_
      refine ops_ex rfl (guard_none rfl) rfl rfl (ex_fieldAddr (off' := so p0 + (a3342).toNat * 8 + 5) rfl rfl Try.underlying119 rfl tsz2 rfl) ?_
      refine ops_doesS rfl (guard_none rfl) rfl (does_setField (fo := 5) (vs := [(.int .i64 (wrap64 (t3379.1 + 1)))]) (y := (⟨(⟨a3341, wrap64 (a3341 + 1)⟩ : Ref), (⟨wrap64 ((wrap64 (a3341 + 1)) + 1), (⟨t3379.2, t3379.1, wrap64 (t3379.1 + 1)⟩ : Rule)⟩ : Out), (gt a3339 a3342).fHeight, (gt a3339 a3342).fMined⟩ : Coin)) kCoin rfl rfl rfl rfl rfl tsz2 (Ones.int Ones.nil) rfl rfl (idx_nat e3390) (fun _ _ _ h => by rw [List.getElem_set_self] at h; obtain ⟨_, rfl, h2⟩ := h; exact ⟨_, rfl, h2⟩) HM) ?_
      rintro w3391 HM
      replace HM := HM.set2
      refine ops_nil ?_
      refine at_then ?_
      refine run_seq ?_
      refine run_region rfl ?_
      refine ops_ex rfl (guard_none rfl) rfl rfl (ex_move rfl rfl) ?_
      refine ops_ex rfl (guard_none rfl) rfl rfl (ex_add rfl rfl rfl) ?_
      refine ops_ex rfl (guard_none rfl) rfl rfl (ex_assign rfl rfl) ?_
      refine ops_nil ?_
      refine at_then ?_
      refine run_seq ?_
      refine run_region rfl ?_
      refine ops_ex rfl (guard_none rfl) rfl rfl (ex_move rfl rfl) ?_
      refine ops_ex rfl (guard_none rfl) rfl rfl (ex_move rfl rfl) ?_
      refine ops_ex rfl (guard_none rfl) rfl rfl (ex_move rfl rfl) ?_
      have e3392 : idxOk a3342 (a3339.set (a3342).toNat (⟨(⟨a3341, wrap64 (a3341 + 1)⟩ : Ref), (⟨wrap64 ((wrap64 (a3341 + 1)) + 1), (⟨t3379.2, t3379.1, wrap64 (t3379.1 + 1)⟩ : Rule)⟩ : Out), (gt a3339 a3342).fHeight, (gt a3339 a3342).fMined⟩ : Coin)).length = true := len_set e3368
      refine ops_ex rfl (guard_none rfl) rfl rfl (ex_indexAddr (d := kCoin) rfl rfl rfl Try.underlying44 tsz123 (HM.own_rd 0 rfl) (idx_lo e3392) (idx_hi e3392)) ?_
      refine ops_ex rfl (guard_none rfl) rfl rfl (ex_fieldAddr (off' := so p0 + (a3342).toNat * 8 + 6) rfl rfl Try.underlying123 rfl tsz2 rfl) ?_
      refine ops_doesS rfl (guard_none rfl) rfl (does_setField (fo := 6) (vs := [(.int .i64 (wrap64 ((wrap64 (t3379.1 + 1)) + 1)))]) (y := (⟨(⟨a3341, wrap64 (a3341 + 1)⟩ : Ref), (⟨wrap64 ((wrap64 (a3341 + 1)) + 1), (⟨t3379.2, t3379.1, wrap64 (t3379.1 + 1)⟩ : Rule)⟩ : Out), wrap64 ((wrap64 (t3379.1 + 1)) + 1), (gt a3339 a3342).fMined⟩ : Coin)) kCoin rfl rfl rfl rfl rfl tsz2 (Ones.int Ones.nil) rfl rfl (idx_nat e3392) (fun _ _ _ h => by rw [List.getElem_set_self] at h; obtain ⟨_, rfl, h2⟩ := h; exact ⟨_, rfl, h2⟩) HM) ?_
      rintro w3393 HM
      replace HM := HM.set2
      refine ops_nil ?_
      refine at_then ?_
      refine run_seq ?_
      refine run_region rfl ?_
      refine ops_ex rfl (guard_none rfl) rfl rfl (ex_move rfl rfl) ?_
      refine ops_ex rfl (guard_none rfl) rfl rfl (ex_add rfl rfl rfl) ?_
      refine ops_ex rfl (guard_none rfl) rfl rfl (ex_assign rfl rfl) ?_
      refine ops_nil ?_
      refine at_then ?_
      refine run_seq ?_
      obtain ⟨e3394, ho3316⟩ := chk_some ho3316
      refine run_region rfl ?_
      refine ops_ex rfl (guard_none rfl) rfl rfl (ex_move rfl rfl) ?_
      refine ops_ex rfl (guard_none rfl) rfl rfl (ex_move rfl rfl) ?_
      refine ops_ex rfl (guard_none rfl) rfl rfl (ex_move rfl rfl) ?_
      refine ops_ex rfl (guard_none rfl) rfl rfl (ex_remk rfl rfl rfl e3394) ?_
      refine ops_ex rfl (guard_none rfl) rfl rfl (ex_eql rfl rfl rfl) ?_
      have e3395 : idxOk a3342 (a3339.set (a3342).toNat (⟨(⟨a3341, wrap64 (a3341 + 1)⟩ : Ref), (⟨wrap64 ((wrap64 (a3341 + 1)) + 1), (⟨t3379.2, t3379.1, wrap64 (t3379.1 + 1)⟩ : Rule)⟩ : Out), wrap64 ((wrap64 (t3379.1 + 1)) + 1), (gt a3339 a3342).fMined⟩ : Coin)).length = true := len_set e3368
      refine ops_ex rfl (guard_none rfl) rfl rfl (ex_indexAddr (d := kCoin) rfl rfl rfl Try.underlying44 tsz123 (HM.own_rd 0 rfl) (idx_lo e3395) (idx_hi e3395)) ?_
      refine ops_ex rfl (guard_none rfl) rfl rfl (ex_fieldAddr (off' := so p0 + (a3342).toNat * 8 + 7) rfl rfl Try.underlying123 rfl tsz4 rfl) ?_
      refine ops_doesS rfl (guard_none rfl) rfl (does_setField (fo := 7) (vs := [(.bool ((Int.tmod (wrap64 ((wrap64 ((wrap64 (t3379.1 + 1)) + 1)) + 1)) (3 : Int)) == 0))]) (y := (⟨(⟨a3341, wrap64 (a3341 + 1)⟩ : Ref), (⟨wrap64 ((wrap64 (a3341 + 1)) + 1), (⟨t3379.2, t3379.1, wrap64 (t3379.1 + 1)⟩ : Rule)⟩ : Out), wrap64 ((wrap64 (t3379.1 + 1)) + 1), ((Int.tmod (wrap64 ((wrap64 ((wrap64 (t3379.1 + 1)) + 1)) + 1)) (3 : Int)) == 0)⟩ : Coin)) kCoin rfl rfl rfl rfl rfl tsz4 (Ones.bool Ones.nil) rfl rfl (idx_nat e3395) (fun _ _ _ h => by rw [List.getElem_set_self] at h; obtain ⟨_, rfl, h2⟩ := h; exact ⟨_, rfl, h2⟩) HM) ?_
      rintro w3396 HM
      replace HM := HM.set2
      refine ops_nil ?_
      refine at_then ?_
      refine run_region rfl ?_
      refine ops_ex rfl (guard_none rfl) rfl rfl (ex_move rfl rfl) ?_
      refine ops_ex rfl (guard_none rfl) rfl rfl (ex_add rfl rfl rfl) ?_
      refine ops_ex rfl (guard_none rfl) rfl rfl (ex_assign rfl rfl) ?_
      refine ops_nil ?_
      refine at_block ?_
      refine at_then ?_
      refine run_region rfl ?_
      refine ops_ex rfl (guard_none rfl) rfl rfl (ex_move rfl rfl) ?_
      refine ops_ex rfl (guard_none rfl) rfl rfl (ex_add rfl rfl rfl) ?_
      refine ops_ex rfl (guard_none rfl) rfl rfl (ex_assign rfl rfl) ?_
      refine ops_nil ?_
      exact at_again k3365 (ρ1 := [(0, p0), (1, .int .i64 (wrap64 ((wrap64 ((wrap64 ((wrap64 (t3379.1 + 1)) + 1)) + 1)) + 1))), (5, .int .i64 (wrap64 (a3342 + 1)))]) (Nat.lt_succ_self _) ⟨_, _, _, ho3316, rfl, HM⟩ (Sub.cons rfl (Sub.cons rfl (Sub.cons rfl Sub.nil)))
    · replace ho3316 := cond_f hb3367 ho3316
      refine run_exit ?_
      refine at_then_exit ?_
      refine at_then_exit ?_
      refine at_block_exit ?_
      exact at_mid (ρ' := [(1, .int .i64 a3341)]) ⟨_, _, (Option.some.inj ho3316), rfl, HM⟩ (Sub.cons rfl Sub.nil)
  · rintro _ w3397 ⟨a3312, a3314, rfl, rfl, HM⟩
    replace H := cur2_mk H
    refine run_seq ?_
    refine run_region rfl ?_
    refine ops_ex rfl (guard_none rfl) rfl rfl (ex_move rfl rfl) ?_
    refine ops_ex rfl (guard_none rfl) rfl rfl (ex_assign rfl rfl) ?_
    refine ops_nil ?_
    refine at_then ?_
    refine run_ret ?_
    have hR := Option.some.inj H
    subst hR
    exact at_ret1 rfl rfl ⟨_, rfl, rfl, HM⟩

def laws_markCoinsResult.f (k : Nat) (x0 : CoinsResult) (x1 : Int) : Option (Int × (List Coin)) := ((laws_markCoinS.f k x0.fCoins x1).bind fun t3433 => some (t3433.1, t3433.2))
theorem laws_markCoinsResult.calls {k : Nat} {x0 : CoinsResult} {x1 : Int} {p0_0 : Value} {w wo : World} {X : List Nat} (hwo : Olds wo w X) (hX : Hold w [own kCoin 123 p0_0 x0.fCoins] X) (hXn : X.Nodup) (hXl : ∀ b ∈ X, b < w.heap.size)  {r : Int × (List Coin)} (H : laws_markCoinsResult.f k x0 x1 = some r) :
    Calls Try.prog 29 ([.agg #[(.int .i64 x0.fCode), p0_0], .int .i64 x1] : List Value).toArray w (fun e w_ => ∃ v, e = .returned v ∧ v = (.int .i64 r.1) ∧ Mem w X w_ [own kCoin 123 p0_0 r.2]) := by
  have HM := Mem.startX hX hXn hXl
  refine calls_run (N := 10) Try.func29 rfl rfl rfl rfl ?_
  unfold laws_markCoinsResult.f at H
  refine run_seq ?_
  refine run_region rfl ?_
  refine ops_does rfl (guard_none rfl) rfl rfl (does_box (cs := [.int .i64 x0.fCode, p0_0]) rfl rfl rfl HM) ?_
  rintro _ w3432 ⟨b3429, rfl, HM⟩
  refine ops_ex rfl (guard_none rfl) rfl rfl (ex_assign rfl rfl) ?_
  refine ops_nil ?_
  refine at_then ?_
  refine run_seq ?_
  obtain ⟨t3433, h3434, H⟩ := bind_some H
  refine run_region rfl ?_
  refine ops_ex rfl (guard_none rfl) rfl rfl (ex_fieldAddr (off' := 1) rfl rfl Try.underlying52 rfl tsz44 rfl) ?_
  refine ops_ex rfl (guard_none rfl) rfl rfl (ex_load1 rfl rfl Try.underlying44 rfl ((HM.box_at 0 rfl) 1 _ rfl)) ?_
  refine ops_ex rfl (guard_none rfl) rfl rfl (ex_move rfl rfl) ?_
  replace HM := HM.front 1 rfl rfl
  obtain ⟨F3435, hF3436, hFn3437, hFl3438, HMh3439, hcl3440⟩ := HM.hide (Ms := [own kCoin 123 p0_0 x0.fCoins])
  refine ops_does rfl (guard_none rfl) rfl rfl (does_callk rfl callok28 rfl (laws_markCoinS.calls (x0 := x0.fCoins) (x1 := x1) (hide_olds _ _) hF3436 hFn3437 hFl3438 h3434)) ?_
  rintro _ w3441 ⟨rfl, hn⟩
  replace HM : Mem w X w3441 [own kCoin 123 p0_0 t3433.2, box b3429 52 [.int .i64 x0.fCode, p0_0]] := hcl3440 _ _ hn
  refine ops_ex rfl (guard_none rfl) rfl rfl (ex_assign rfl rfl) ?_
  refine ops_nil ?_
  refine at_then ?_
  refine run_seq ?_
  refine run_region rfl ?_
  refine ops_ex rfl (guard_none rfl) rfl rfl (ex_move rfl rfl) ?_
  refine ops_ex rfl (guard_none rfl) rfl rfl (ex_assign rfl rfl) ?_
  refine ops_nil ?_
  refine at_then ?_
  refine run_ret ?_
  replace HM := (HM.front 1 rfl rfl).drop
  have hR := Option.some.inj H
  subst hR
  exact at_ret1 rfl rfl ⟨_, rfl, rfl, HM⟩

def laws_heldInt64S.l0 (x0 : List Int) : Nat → Int → Int → Option (Int ⊕ Int)
  | 0, _, _ => none
  | k + 1, a3526, a3527 => (bif (decide (a3527 < (x0.length : Int))) then (chk (idxOk a3527 x0.length) (bif ((gt x0 a3527) != a3526) then some (.inl (-1)) else laws_heldInt64S.l0 x0 k (wrap64 (a3526 + 1)) (wrap64 (a3527 + 1)))) else some (.inr a3526))
theorem laws_heldInt64S.l0_z (x0 : List Int) (a3526 : Int) (a3527 : Int) : laws_heldInt64S.l0 x0 0 a3526 a3527 = none := rfl
theorem laws_heldInt64S.l0_s (x0 : List Int) (k : Nat) (a3526 : Int) (a3527 : Int) : laws_heldInt64S.l0 x0 (k + 1) a3526 a3527 = (bif (decide (a3527 < (x0.length : Int))) then (chk (idxOk a3527 x0.length) (bif ((gt x0 a3527) != a3526) then some (.inl (-1)) else laws_heldInt64S.l0 x0 k (wrap64 (a3526 + 1)) (wrap64 (a3527 + 1)))) else some (.inr a3526)) := rfl
def laws_heldInt64S.f (k : Nat) (x0 : List Int) (x1 : Int) : Option Int := ((laws_heldInt64S.l0 x0 k x1 0).bind fun o3520 => thn o3520 (fun r => some r) (fun a3519 => some a3519))
theorem laws_heldInt64S.calls {k : Nat} {x0 : List Int} {x1 : Int} {p0 : Value} {w : World} (hp0 : RdS kInt w p0 x0) {r : Int} (H : laws_heldInt64S.f k x0 x1 = some r) :
    Calls Try.prog 132 ([p0, .int .i64 x1] : List Value).toArray w (fun e w_ => ∃ v, e = .returned v ∧ v = (.int .i64 r) ∧ Mem w [] w_ []) := by
  have HM := Mem.start w
  refine calls_run (N := 21) Try.func132 rfl rfl rfl rfl ?_
  unfold laws_heldInt64S.f at H
  refine run_seq ?_
  refine run_region rfl ?_
  refine ops_ex rfl (guard_none rfl) rfl rfl (ex_assign rfl rfl) ?_
  refine ops_nil ?_
  refine at_then ?_
  obtain ⟨o3520, ho3521, H⟩ := bind_some H
  refine run_mid (fun ρ_ w_ => ∃ a3519 : Int, Sum.inr a3519 = o3520 ∧ ρ_ = [(1, .int .i64 a3519)] ∧ Mem w [] w_ []) ?_ ?_
  · skip
    refine run_seq ?_
    refine run_region rfl ?_
    refine ops_ex rfl (guard_none rfl) rfl rfl (ex_assign rfl rfl) ?_
    refine ops_nil ?_
    refine at_then ?_
    refine run_block ?_
    refine run_loop (fun k_ ρ_ w_ => ∃ a3526 : Int, ∃ a3527 : Int, laws_heldInt64S.l0 x0 k_ a3526 a3527 = some o3520 ∧ ρ_ = [(0, p0), (1, .int .i64 a3526), (5, .int .i64 a3527)] ∧ Mem w [] w_ []) k (ρ1 := [(0, p0), (1, .int .i64 x1), (5, .int .i64 0)]) ⟨_, _, ho3521, rfl, HM⟩ (Sub.cons rfl (Sub.cons rfl (Sub.cons rfl Sub.nil))) ?_
    clear HM ho3521
    rintro k3532 _ w3533 ⟨a3526, a3527, ho3521, rfl, HM⟩
    obtain _ | k3532 := k3532
    · exact nomatch ((laws_heldInt64S.l0_z x0 a3526 a3527).symm.trans ho3521)
    replace ho3521 := (laws_heldInt64S.l0_s x0 k3532 a3526 a3527).symm.trans ho3521
    refine run_seq ?_
    refine run_seq ?_
    refine run_region rfl ?_
    refine ops_ex rfl (guard_none rfl) rfl rfl (ex_move rfl rfl) ?_
    refine ops_ex rfl (guard_none rfl) rfl rfl (ex_move rfl rfl) ?_
    refine ops_ex rfl (guard_none rfl) rfl rfl (ex_len (d := kInt) (xs := x0) rfl rfl Try.underlying111 hp0) ?_
    refine ops_ex rfl (guard_none rfl) rfl rfl (ex_lss rfl rfl rfl) ?_
    refine ops_nil ?_
    refine at_then ?_
    refine run_cond (b := (decide (a3527 < (x0.length : Int)))) rfl (fun hb3534 => ?_) (fun hb3534 => ?_)
    · replace ho3521 := cond_t hb3534 ho3521
      refine run_skip ?_
      refine at_then ?_
      refine run_seq ?_
      refine run_block ?_
      refine run_seq ?_
      refine run_seq ?_
      obtain ⟨e3535, ho3521⟩ := chk_some ho3521
      refine run_region rfl ?_
      refine ops_ex rfl (guard_none rfl) rfl rfl (ex_move rfl rfl) ?_
      refine ops_ex rfl (guard_none rfl) rfl rfl (ex_move rfl rfl) ?_
      have hc3536 : CellsAt _ (sb p0) (so p0 + (a3527).toNat * 1) [(.int .i64 (gt x0 a3527))] := rd_plain hp0 e3535
      refine ops_ex rfl (guard_none rfl) rfl rfl (ex_indexAddr (d := kInt) rfl rfl rfl Try.underlying111 tsz2 hp0 (idx_lo e3535) (idx_hi e3535)) ?_
      refine ops_ex rfl (guard_none rfl) rfl rfl (ex_load1 rfl rfl Try.underlying2 rfl ((HM.at_ hc3536) 0 _ rfl)) ?_
      refine ops_ex rfl (guard_none rfl) rfl rfl (ex_move rfl rfl) ?_
      refine ops_ex rfl (guard_none rfl) rfl rfl (ex_neq rfl rfl rfl) ?_
      refine ops_nil ?_
      refine at_then ?_
      refine run_cond (b := ((gt x0 a3527) != a3526)) rfl (fun hb3537 => ?_) (fun hb3537 => ?_)
      · replace ho3521 := cond_t hb3537 ho3521
        refine run_seq ?_
        refine run_region rfl ?_
        refine ops_ex rfl (guard_none rfl) rfl rfl (ex_assign rfl rfl) ?_
        refine ops_nil ?_
        refine at_then ?_
        refine run_ret ?_
        refine at_then_ret ?_
        refine at_block_ret ?_
        refine at_then_ret ?_
        refine at_then_ret ?_
        refine at_block_ret ?_
        refine at_then_ret ?_
        have hR := Option.some.inj ho3521
        subst hR
        have hT := thn_inl H
        have hR := Option.some.inj hT
        subst hR
        exact at_ret1 rfl rfl ⟨_, rfl, rfl, HM⟩
      · replace ho3521 := cond_f hb3537 ho3521
        refine run_skip ?_
        refine at_then ?_
        refine run_region rfl ?_
        refine ops_ex rfl (guard_none rfl) rfl rfl (ex_move rfl rfl) ?_
        refine ops_ex rfl (guard_none rfl) rfl rfl (ex_add rfl rfl rfl) ?_
        refine ops_ex rfl (guard_none rfl) rfl rfl (ex_assign rfl rfl) ?_
        refine ops_nil ?_
        refine at_block ?_
        refine at_then ?_
        refine run_region rfl ?_
        refine ops_ex rfl (guard_none rfl) rfl rfl (ex_move rfl rfl) ?_
        refine ops_ex rfl (guard_none rfl) rfl rfl (ex_add rfl rfl rfl) ?_
        refine ops_ex rfl (guard_none rfl) rfl rfl (ex_assign rfl rfl) ?_
        refine ops_nil ?_
        exact at_again k3532 (ρ1 := [(0, p0), (1, .int .i64 (wrap64 (a3526 + 1))), (5, .int .i64 (wrap64 (a3527 + 1)))]) (Nat.lt_succ_self _) ⟨_, _, ho3521, rfl, HM⟩ (Sub.cons rfl (Sub.cons rfl (Sub.cons rfl Sub.nil)))
    · replace ho3521 := cond_f hb3534 ho3521
      refine run_exit ?_
      refine at_then_exit ?_
      refine at_then_exit ?_
      refine at_block_exit ?_
      exact at_mid (ρ' := [(1, .int .i64 a3526)]) ⟨_, (Option.some.inj ho3521), rfl, HM⟩ (Sub.cons rfl Sub.nil)
  · rintro _ w3538 ⟨a3519, rfl, rfl, HM⟩
    replace H := (thn_inr H)
    refine run_seq ?_
    refine run_region rfl ?_
    refine ops_ex rfl (guard_none rfl) rfl rfl (ex_move rfl rfl) ?_
    refine ops_ex rfl (guard_none rfl) rfl rfl (ex_assign rfl rfl) ?_
    refine ops_nil ?_
    refine at_then ?_
    refine run_ret ?_
    have hR := Option.some.inj H
    subst hR
    exact at_ret1 rfl rfl ⟨_, rfl, rfl, HM⟩

def laws_heldCoinS.l0 (x0 : List Coin) : Nat → Int → Int → Option (Int ⊕ Int)
  | 0, _, _ => none
  | k + 1, a4039, a4040 => (bif (decide (a4040 < (x0.length : Int))) then (chk (idxOk a4040 x0.length) (bif (((gt x0 a4040).fRef.fTx) != a4039) then some (.inl (-1)) else (chk (idxOk a4040 x0.length) (bif (((gt x0 a4040).fRef.fAt) != (wrap64 (a4039 + 1))) then some (.inl (-1)) else (chk (idxOk a4040 x0.length) (bif (((gt x0 a4040).fOut.fValue) != (wrap64 ((wrap64 (a4039 + 1)) + 1))) then some (.inl (-1)) else (chk (idxOk a4040 x0.length) ((laws_heldInt64S.f k ((gt x0 a4040).fOut.fRule.fKeys) (wrap64 ((wrap64 ((wrap64 (a4039 + 1)) + 1)) + 1))).bind fun t4153 => (bif (decide (t4153 < 0)) then some (.inl (-1)) else (chk (idxOk a4040 x0.length) (bif (((gt x0 a4040).fOut.fRule.fNeed) != t4153) then some (.inl (-1)) else (chk (idxOk a4040 x0.length) (bif (((gt x0 a4040).fOut.fRule.fAfter) != (wrap64 (t4153 + 1))) then some (.inl (-1)) else (chk (idxOk a4040 x0.length) (bif (((gt x0 a4040).fHeight) != (wrap64 ((wrap64 (t4153 + 1)) + 1))) then some (.inl (-1)) else (chk (idxOk a4040 x0.length) (chk ((3 : Int) != 0) (bif (((gt x0 a4040).fMined) != ((Int.tmod (wrap64 ((wrap64 ((wrap64 (t4153 + 1)) + 1)) + 1)) (3 : Int)) == 0)) then some (.inl (-1)) else laws_heldCoinS.l0 x0 k (wrap64 ((wrap64 ((wrap64 ((wrap64 (t4153 + 1)) + 1)) + 1)) + 1)) (wrap64 (a4040 + 1)))))))))))))))))))) else some (.inr a4039))
theorem laws_heldCoinS.l0_z (x0 : List Coin) (a4039 : Int) (a4040 : Int) : laws_heldCoinS.l0 x0 0 a4039 a4040 = none := rfl
theorem laws_heldCoinS.l0_s (x0 : List Coin) (k : Nat) (a4039 : Int) (a4040 : Int) : laws_heldCoinS.l0 x0 (k + 1) a4039 a4040 = (bif (decide (a4040 < (x0.length : Int))) then (chk (idxOk a4040 x0.length) (bif (((gt x0 a4040).fRef.fTx) != a4039) then some (.inl (-1)) else (chk (idxOk a4040 x0.length) (bif (((gt x0 a4040).fRef.fAt) != (wrap64 (a4039 + 1))) then some (.inl (-1)) else (chk (idxOk a4040 x0.length) (bif (((gt x0 a4040).fOut.fValue) != (wrap64 ((wrap64 (a4039 + 1)) + 1))) then some (.inl (-1)) else (chk (idxOk a4040 x0.length) ((laws_heldInt64S.f k ((gt x0 a4040).fOut.fRule.fKeys) (wrap64 ((wrap64 ((wrap64 (a4039 + 1)) + 1)) + 1))).bind fun t4153 => (bif (decide (t4153 < 0)) then some (.inl (-1)) else (chk (idxOk a4040 x0.length) (bif (((gt x0 a4040).fOut.fRule.fNeed) != t4153) then some (.inl (-1)) else (chk (idxOk a4040 x0.length) (bif (((gt x0 a4040).fOut.fRule.fAfter) != (wrap64 (t4153 + 1))) then some (.inl (-1)) else (chk (idxOk a4040 x0.length) (bif (((gt x0 a4040).fHeight) != (wrap64 ((wrap64 (t4153 + 1)) + 1))) then some (.inl (-1)) else (chk (idxOk a4040 x0.length) (chk ((3 : Int) != 0) (bif (((gt x0 a4040).fMined) != ((Int.tmod (wrap64 ((wrap64 ((wrap64 (t4153 + 1)) + 1)) + 1)) (3 : Int)) == 0)) then some (.inl (-1)) else laws_heldCoinS.l0 x0 k (wrap64 ((wrap64 ((wrap64 ((wrap64 (t4153 + 1)) + 1)) + 1)) + 1)) (wrap64 (a4040 + 1)))))))))))))))))))) else some (.inr a4039)) := rfl
def laws_heldCoinS.f (k : Nat) (x0 : List Coin) (x1 : Int) : Option Int := ((laws_heldCoinS.l0 x0 k x1 0).bind fun o3962 => thn o3962 (fun r => some r) (fun a3961 => some a3961))
theorem laws_heldCoinS.calls {k : Nat} {x0 : List Coin} {x1 : Int} {p0 : Value} {w : World} (hp0 : RdS kCoin w p0 x0) {r : Int} (H : laws_heldCoinS.f k x0 x1 = some r) :
    Calls Try.prog 85 ([p0, .int .i64 x1] : List Value).toArray w (fun e w_ => ∃ v, e = .returned v ∧ v = (.int .i64 r) ∧ Mem w [] w_ []) := by
  have HM := Mem.start w
  refine calls_run (N := 96) Try.func85 rfl rfl rfl rfl ?_
  unfold laws_heldCoinS.f at H
  refine run_seq ?_
  refine run_region rfl ?_
  refine ops_ex rfl (guard_none rfl) rfl rfl (ex_assign rfl rfl) ?_
  refine ops_nil ?_
  refine at_then ?_
  obtain ⟨o3962, ho3963, H⟩ := bind_some H
  refine run_mid (fun ρ_ w_ => ∃ a3961 : Int, Sum.inr a3961 = o3962 ∧ ρ_ = [(1, .int .i64 a3961)] ∧ Mem w [] w_ []) ?_ ?_
  · skip
    refine run_seq ?_
    refine run_region rfl ?_
    refine ops_ex rfl (guard_none rfl) rfl rfl (ex_assign rfl rfl) ?_
    refine ops_nil ?_
    refine at_then ?_
    refine run_block ?_
    refine run_loop (fun k_ ρ_ w_ => ∃ a4039 : Int, ∃ a4040 : Int, laws_heldCoinS.l0 x0 k_ a4039 a4040 = some o3962 ∧ ρ_ = [(0, p0), (1, .int .i64 a4039), (5, .int .i64 a4040)] ∧ Mem w [] w_ []) k (ρ1 := [(0, p0), (1, .int .i64 x1), (5, .int .i64 0)]) ⟨_, _, ho3963, rfl, HM⟩ (Sub.cons rfl (Sub.cons rfl (Sub.cons rfl Sub.nil))) ?_
    clear HM ho3963
    rintro k4116 _ w4117 ⟨a4039, a4040, ho3963, rfl, HM⟩
    obtain _ | k4116 := k4116
    · exact nomatch ((laws_heldCoinS.l0_z x0 a4039 a4040).symm.trans ho3963)
    replace ho3963 := (laws_heldCoinS.l0_s x0 k4116 a4039 a4040).symm.trans ho3963
    refine run_seq ?_
    refine run_seq ?_
    refine run_region rfl ?_
    refine ops_ex rfl (guard_none rfl) rfl rfl (ex_move rfl rfl) ?_
    refine ops_ex rfl (guard_none rfl) rfl rfl (ex_move rfl rfl) ?_
    refine ops_ex rfl (guard_none rfl) rfl rfl (ex_len (d := kCoin) (xs := x0) rfl rfl Try.underlying44 hp0) ?_
    refine ops_ex rfl (guard_none rfl) rfl rfl (ex_lss rfl rfl rfl) ?_
    refine ops_nil ?_
    refine at_then ?_
    refine run_cond (b := (decide (a4040 < (x0.length : Int)))) rfl (fun hb4118 => ?_) (fun hb4118 => ?_)
    · replace ho3963 := cond_t hb4118 ho3963
      refine run_skip ?_
      refine at_then ?_
      refine run_seq ?_
      refine run_block ?_
      refine run_seq ?_
      refine run_seq ?_
      obtain ⟨e4124, ho3963⟩ := chk_some ho3963
      refine run_region rfl ?_
      refine ops_ex rfl (guard_none rfl) rfl rfl (ex_move rfl rfl) ?_
      refine ops_ex rfl (guard_none rfl) rfl rfl (ex_move rfl rfl) ?_
      obtain ⟨kv4126, hc4125, hk4127⟩ : ∃ u, CellsAt _ (sb p0) (so p0 + (a4040).toNat * 8) [(.int .i64 ((gt x0 a4040).fRef.fTx)), (.int .i64 ((gt x0 a4040).fRef.fAt)), (.int .i64 ((gt x0 a4040).fOut.fValue)), u, (.int .i64 ((gt x0 a4040).fOut.fRule.fNeed)), (.int .i64 ((gt x0 a4040).fOut.fRule.fAfter)), (.int .i64 ((gt x0 a4040).fHeight)), (.bool ((gt x0 a4040).fMined))] ∧ RdS kInt _ u ((gt x0 a4040).fOut.fRule.fKeys) := rd_with1 hp0 e4124
      refine ops_ex rfl (guard_none rfl) rfl rfl (ex_indexAddr (d := kCoin) rfl rfl rfl Try.underlying44 tsz123 hp0 (idx_lo e4124) (idx_hi e4124)) ?_
      refine ops_ex rfl (guard_none rfl) rfl rfl (ex_fieldAddr (off' := so p0 + (a4040).toNat * 8) rfl rfl Try.underlying123 rfl tsz54 rfl) ?_
      refine ops_ex rfl (guard_none rfl) rfl rfl (ex_fieldAddr (off' := so p0 + (a4040).toNat * 8) rfl rfl Try.underlying54 rfl tsz2 rfl) ?_
      refine ops_ex rfl (guard_none rfl) rfl rfl (ex_load1 rfl rfl Try.underlying2 rfl ((HM.at_ hc4125) 0 _ rfl)) ?_
      refine ops_ex rfl (guard_none rfl) rfl rfl (ex_move rfl rfl) ?_
      refine ops_ex rfl (guard_none rfl) rfl rfl (ex_neq rfl rfl rfl) ?_
      refine ops_nil ?_
      refine at_then ?_
      refine run_cond (b := (((gt x0 a4040).fRef.fTx) != a4039)) rfl (fun hb4128 => ?_) (fun hb4128 => ?_)
      · replace ho3963 := cond_t hb4128 ho3963
        refine run_seq ?_
        refine run_region rfl ?_
        refine ops_ex rfl (guard_none rfl) rfl rfl (ex_assign rfl rfl) ?_
        refine ops_nil ?_
        refine at_then ?_
        refine run_ret ?_
        refine at_then_ret ?_
        refine at_block_ret ?_
        refine at_then_ret ?_
        refine at_then_ret ?_
        refine at_block_ret ?_
        refine at_then_ret ?_
        have hR := Option.some.inj ho3963
        subst hR
        have hT := thn_inl H
        have hR := Option.some.inj hT
        subst hR
        exact at_ret1 rfl rfl ⟨_, rfl, rfl, HM⟩
      · replace ho3963 := cond_f hb4128 ho3963
        refine run_skip ?_
        refine at_then ?_
        refine run_seq ?_
        refine run_region rfl ?_
        refine ops_ex rfl (guard_none rfl) rfl rfl (ex_move rfl rfl) ?_
        refine ops_ex rfl (guard_none rfl) rfl rfl (ex_add rfl rfl rfl) ?_
        refine ops_ex rfl (guard_none rfl) rfl rfl (ex_assign rfl rfl) ?_
        refine ops_nil ?_
        refine at_then ?_
        refine run_seq ?_
        refine run_seq ?_
        obtain ⟨e4134, ho3963⟩ := chk_some ho3963
        refine run_region rfl ?_
        refine ops_ex rfl (guard_none rfl) rfl rfl (ex_move rfl rfl) ?_
        refine ops_ex rfl (guard_none rfl) rfl rfl (ex_move rfl rfl) ?_
        obtain ⟨kv4136, hc4135, hk4137⟩ : ∃ u, CellsAt _ (sb p0) (so p0 + (a4040).toNat * 8) [(.int .i64 ((gt x0 a4040).fRef.fTx)), (.int .i64 ((gt x0 a4040).fRef.fAt)), (.int .i64 ((gt x0 a4040).fOut.fValue)), u, (.int .i64 ((gt x0 a4040).fOut.fRule.fNeed)), (.int .i64 ((gt x0 a4040).fOut.fRule.fAfter)), (.int .i64 ((gt x0 a4040).fHeight)), (.bool ((gt x0 a4040).fMined))] ∧ RdS kInt _ u ((gt x0 a4040).fOut.fRule.fKeys) := rd_with1 hp0 e4134
        refine ops_ex rfl (guard_none rfl) rfl rfl (ex_indexAddr (d := kCoin) rfl rfl rfl Try.underlying44 tsz123 hp0 (idx_lo e4134) (idx_hi e4134)) ?_
        refine ops_ex rfl (guard_none rfl) rfl rfl (ex_fieldAddr (off' := so p0 + (a4040).toNat * 8) rfl rfl Try.underlying123 rfl tsz54 rfl) ?_
        refine ops_ex rfl (guard_none rfl) rfl rfl (ex_fieldAddr (off' := so p0 + (a4040).toNat * 8 + 1) rfl rfl Try.underlying54 rfl tsz2 rfl) ?_
        refine ops_ex rfl (guard_none rfl) rfl rfl (ex_load1 rfl rfl Try.underlying2 rfl ((HM.at_ hc4135) 1 _ rfl)) ?_
        refine ops_ex rfl (guard_none rfl) rfl rfl (ex_move rfl rfl) ?_
        refine ops_ex rfl (guard_none rfl) rfl rfl (ex_neq rfl rfl rfl) ?_
        refine ops_nil ?_
        refine at_then ?_
        refine run_cond (b := (((gt x0 a4040).fRef.fAt) != (wrap64 (a4039 + 1)))) rfl (fun hb4138 => ?_) (fun hb4138 => ?_)
        · replace ho3963 := cond_t hb4138 ho3963
          refine run_seq ?_
          refine run_region rfl ?_
          refine ops_ex rfl (guard_none rfl) rfl rfl (ex_assign rfl rfl) ?_
          refine ops_nil ?_
          refine at_then ?_
          refine run_ret ?_
          refine at_then_ret ?_
          refine at_block_ret ?_
          refine at_then_ret ?_
          refine at_then_ret ?_
          refine at_block_ret ?_
          refine at_then_ret ?_
          have hR := Option.some.inj ho3963
          subst hR
          have hT := thn_inl H
          have hR := Option.some.inj hT
          subst hR
          exact at_ret1 rfl rfl ⟨_, rfl, rfl, HM⟩
        · replace ho3963 := cond_f hb4138 ho3963
          refine run_skip ?_
          refine at_then ?_
          refine run_seq ?_
          refine run_region rfl ?_
          refine ops_ex rfl (guard_none rfl) rfl rfl (ex_move rfl rfl) ?_
          refine ops_ex rfl (guard_none rfl) rfl rfl (ex_add rfl rfl rfl) ?_
          refine ops_ex rfl (guard_none rfl) rfl rfl (ex_assign rfl rfl) ?_
          refine ops_nil ?_
          refine at_then ?_
          refine run_seq ?_
          refine run_seq ?_
          obtain ⟨e4144, ho3963⟩ := chk_some ho3963
          refine run_region rfl ?_
          refine ops_ex rfl (guard_none rfl) rfl rfl (ex_move rfl rfl) ?_
          refine ops_ex rfl (guard_none rfl) rfl rfl (ex_move rfl rfl) ?_
          obtain ⟨kv4146, hc4145, hk4147⟩ : ∃ u, CellsAt _ (sb p0) (so p0 + (a4040).toNat * 8) [(.int .i64 ((gt x0 a4040).fRef.fTx)), (.int .i64 ((gt x0 a4040).fRef.fAt)), (.int .i64 ((gt x0 a4040).fOut.fValue)), u, (.int .i64 ((gt x0 a4040).fOut.fRule.fNeed)), (.int .i64 ((gt x0 a4040).fOut.fRule.fAfter)), (.int .i64 ((gt x0 a4040).fHeight)), (.bool ((gt x0 a4040).fMined))] ∧ RdS kInt _ u ((gt x0 a4040).fOut.fRule.fKeys) := rd_with1 hp0 e4144
          refine ops_ex rfl (guard_none rfl) rfl rfl (ex_indexAddr (d := kCoin) rfl rfl rfl Try.underlying44 tsz123 hp0 (idx_lo e4144) (idx_hi e4144)) ?_
          refine ops_ex rfl (guard_none rfl) rfl rfl (ex_fieldAddr (off' := so p0 + (a4040).toNat * 8 + 2) rfl rfl Try.underlying123 rfl tsz121 rfl) ?_
          refine ops_ex rfl (guard_none rfl) rfl rfl (ex_fieldAddr (off' := so p0 + (a4040).toNat * 8 + 2) rfl rfl Try.underlying121 rfl tsz2 rfl) ?_
          refine ops_ex rfl (guard_none rfl) rfl rfl (ex_load1 rfl rfl Try.underlying2 rfl ((HM.at_ hc4145) 2 _ rfl)) ?_
          refine ops_ex rfl (guard_none rfl) rfl rfl (ex_move rfl rfl) ?_
          refine ops_ex rfl (guard_none rfl) rfl rfl (ex_neq rfl rfl rfl) ?_
          refine ops_nil ?_
          refine at_then ?_
          refine run_cond (b := (((gt x0 a4040).fOut.fValue) != (wrap64 ((wrap64 (a4039 + 1)) + 1)))) rfl (fun hb4148 => ?_) (fun hb4148 => ?_)
          · replace ho3963 := cond_t hb4148 ho3963
            refine run_seq ?_
            refine run_region rfl ?_
            refine ops_ex rfl (guard_none rfl) rfl rfl (ex_assign rfl rfl) ?_
            refine ops_nil ?_
            refine at_then ?_
            refine run_ret ?_
            refine at_then_ret ?_
            refine at_block_ret ?_
            refine at_then_ret ?_
            refine at_then_ret ?_
            refine at_block_ret ?_
            refine at_then_ret ?_
            have hR := Option.some.inj ho3963
            subst hR
            have hT := thn_inl H
            have hR := Option.some.inj hT
            subst hR
            exact at_ret1 rfl rfl ⟨_, rfl, rfl, HM⟩
          · replace ho3963 := cond_f hb4148 ho3963
            refine run_skip ?_
            refine at_then ?_
            refine run_seq ?_
            refine run_region rfl ?_
            refine ops_ex rfl (guard_none rfl) rfl rfl (ex_move rfl rfl) ?_
            refine ops_ex rfl (guard_none rfl) rfl rfl (ex_add rfl rfl rfl) ?_
            refine ops_ex rfl (guard_none rfl) rfl rfl (ex_assign rfl rfl) ?_
            refine ops_nil ?_
            refine at_then ?_
            refine run_seq ?_
            obtain ⟨e4149, ho3963⟩ := chk_some ho3963
            obtain ⟨t4153, h4154, ho3963⟩ := bind_some ho3963
            refine run_region rfl ?_
            refine ops_ex rfl (guard_none rfl) rfl rfl (ex_move rfl rfl) ?_
            refine ops_ex rfl (guard_none rfl) rfl rfl (ex_move rfl rfl) ?_
            obtain ⟨kv4151, hc4150, hk4152⟩ : ∃ u, CellsAt _ (sb p0) (so p0 + (a4040).toNat * 8) [(.int .i64 ((gt x0 a4040).fRef.fTx)), (.int .i64 ((gt x0 a4040).fRef.fAt)), (.int .i64 ((gt x0 a4040).fOut.fValue)), u, (.int .i64 ((gt x0 a4040).fOut.fRule.fNeed)), (.int .i64 ((gt x0 a4040).fOut.fRule.fAfter)), (.int .i64 ((gt x0 a4040).fHeight)), (.bool ((gt x0 a4040).fMined))] ∧ RdS kInt _ u ((gt x0 a4040).fOut.fRule.fKeys) := rd_with1 hp0 e4149
            refine ops_ex rfl (guard_none rfl) rfl rfl (ex_indexAddr (d := kCoin) rfl rfl rfl Try.underlying44 tsz123 hp0 (idx_lo e4149) (idx_hi e4149)) ?_
            refine ops_ex rfl (guard_none rfl) rfl rfl (ex_fieldAddr (off' := so p0 + (a4040).toNat * 8 + 2) rfl rfl Try.underlying123 rfl tsz121 rfl) ?_
            refine ops_ex rfl (guard_none rfl) rfl rfl (ex_fieldAddr (off' := so p0 + (a4040).toNat * 8 + 3) rfl rfl Try.underlying121 rfl tsz119 rfl) ?_
            refine ops_ex rfl (guard_none rfl) rfl rfl (ex_fieldAddr (off' := so p0 + (a4040).toNat * 8 + 3) rfl rfl Try.underlying119 rfl tsz111 rfl) ?_
            refine ops_ex rfl (guard_none rfl) rfl rfl (ex_load1 rfl rfl Try.underlying111 rfl ((HM.at_ hc4150) 3 _ rfl)) ?_
            refine ops_ex rfl (guard_none rfl) rfl rfl (ex_move rfl rfl) ?_
            refine ops_does rfl (guard_none rfl) rfl rfl (does_callk rfl callok132 rfl (laws_heldInt64S.calls (x0 := (gt x0 a4040).fOut.fRule.fKeys) (x1 := wrap64 ((wrap64 ((wrap64 (a4039 + 1)) + 1)) + 1)) (HM.rd hk4152) h4154)) ?_
            rintro _ w4155 ⟨rfl, hn⟩
            replace HM : Mem w [] w4155 [] := HM.call hn
            refine ops_ex rfl (guard_none rfl) rfl rfl (ex_assign rfl rfl) ?_
            refine ops_nil ?_
            refine at_then ?_
            refine run_seq ?_
            refine run_seq ?_
            refine run_region rfl ?_
            refine ops_ex rfl (guard_none rfl) rfl rfl (ex_move rfl rfl) ?_
            refine ops_ex rfl (guard_none rfl) rfl rfl (ex_lss rfl rfl rfl) ?_
            refine ops_nil ?_
            refine at_then ?_
            refine run_cond (b := (decide (t4153 < 0))) rfl (fun hb4157 => ?_) (fun hb4157 => ?_)
            · replace ho3963 := cond_t hb4157 ho3963
              refine run_seq ?_
              refine run_region rfl ?_
              refine ops_ex rfl (guard_none rfl) rfl rfl (ex_assign rfl rfl) ?_
              refine ops_nil ?_
              refine at_then ?_
              refine run_ret ?_
              refine at_then_ret ?_
              refine at_block_ret ?_
              refine at_then_ret ?_
              refine at_then_ret ?_
              refine at_block_ret ?_
              refine at_then_ret ?_
              have hR := Option.some.inj ho3963
              subst hR
              have hT := thn_inl H
              have hR := Option.some.inj hT
              subst hR
              exact at_ret1 rfl rfl ⟨_, rfl, rfl, HM⟩
            · replace ho3963 := cond_f hb4157 ho3963
              refine run_skip ?_
              refine at_then ?_
              refine run_seq ?_
              refine run_seq ?_
              obtain ⟨e4163, ho3963⟩ := chk_some ho3963
              refine run_region rfl ?_
              refine ops_ex rfl (guard_none rfl) rfl rfl (ex_move rfl rfl) ?_
              refine ops_ex rfl (guard_none rfl) rfl rfl (ex_move rfl rfl) ?_
              obtain ⟨kv4165, hc4164, hk4166⟩ : ∃ u, CellsAt _ (sb p0) (so p0 + (a4040).toNat * 8) [(.int .i64 ((gt x0 a4040).fRef.fTx)), (.int .i64 ((gt x0 a4040).fRef.fAt)), (.int .i64 ((gt x0 a4040).fOut.fValue)), u, (.int .i64 ((gt x0 a4040).fOut.fRule.fNeed)), (.int .i64 ((gt x0 a4040).fOut.fRule.fAfter)), (.int .i64 ((gt x0 a4040).fHeight)), (.bool ((gt x0 a4040).fMined))] ∧ RdS kInt _ u ((gt x0 a4040).fOut.fRule.fKeys) := rd_with1 hp0 e4163
              refine ops_ex rfl (guard_none rfl) rfl rfl (ex_indexAddr (d := kCoin) rfl rfl rfl Try.underlying44 tsz123 hp0 (idx_lo e4163) (idx_hi e4163)) ?_
              refine ops_ex rfl (guard_none rfl) rfl rfl (ex_fieldAddr (off' := so p0 + (a4040).toNat * 8 + 2) rfl rfl Try.underlying123 rfl tsz121 rfl) ?_
              refine ops_ex rfl (guard_none rfl) rfl rfl (ex_fieldAddr (off' := so p0 + (a4040).toNat * 8 + 3) rfl rfl Try.underlying121 rfl tsz119 rfl) ?_
              refine ops_ex rfl (guard_none rfl) rfl rfl (ex_fieldAddr (off' := so p0 + (a4040).toNat * 8 + 4) rfl rfl Try.underlying119 rfl tsz2 rfl) ?_
              refine ops_ex rfl (guard_none rfl) rfl rfl (ex_load1 rfl rfl Try.underlying2 rfl ((HM.at_ hc4164) 4 _ rfl)) ?_
              refine ops_ex rfl (guard_none rfl) rfl rfl (ex_move rfl rfl) ?_
              refine ops_ex rfl (guard_none rfl) rfl rfl (ex_neq rfl rfl rfl) ?_
              refine ops_nil ?_
              refine at_then ?_
              refine run_cond (b := (((gt x0 a4040).fOut.fRule.fNeed) != t4153)) rfl (fun hb4167 => ?_) (fun hb4167 => ?_)
              · replace ho3963 := cond_t hb4167 ho3963
                refine run_seq ?_
                refine run_region rfl ?_
                refine ops_ex rfl (guard_none rfl) rfl rfl (ex_assign rfl rfl) ?_
                refine ops_nil ?_
                refine at_then ?_
                refine run_ret ?_
                refine at_then_ret ?_
                refine at_block_ret ?_
                refine at_then_ret ?_
                refine at_then_ret ?_
                refine at_block_ret ?_
                refine at_then_ret ?_
                have hR := Option.some.inj ho3963
                subst hR
                have hT := thn_inl H
                have hR := Option.some.inj hT
                subst hR
                exact at_ret1 rfl rfl ⟨_, rfl, rfl, HM⟩
              · replace ho3963 := cond_f hb4167 ho3963
                refine run_skip ?_
                refine at_then ?_
                refine run_seq ?_
                refine run_region rfl ?_
                refine ops_ex rfl (guard_none rfl) rfl rfl (ex_move rfl rfl) ?_
                refine ops_ex rfl (guard_none rfl) rfl rfl (ex_add rfl rfl rfl) ?_
                refine ops_ex rfl (guard_none rfl) rfl rfl (ex_assign rfl rfl) ?_
                refine ops_nil ?_
                refine at_then ?_
                refine run_seq ?_
                refine run_seq ?_
                obtain ⟨e4173, ho3963⟩ := chk_some ho3963
                refine run_region rfl ?_
                refine ops_ex rfl (guard_none rfl) rfl rfl (ex_move rfl rfl) ?_
                refine ops_ex rfl (guard_none rfl) rfl rfl (ex_move rfl rfl) ?_
                obtain ⟨kv4175, hc4174, hk4176⟩ : ∃ u, CellsAt _ (sb p0) (so p0 + (a4040).toNat * 8) [(.int .i64 ((gt x0 a4040).fRef.fTx)), (.int .i64 ((gt x0 a4040).fRef.fAt)), (.int .i64 ((gt x0 a4040).fOut.fValue)), u, (.int .i64 ((gt x0 a4040).fOut.fRule.fNeed)), (.int .i64 ((gt x0 a4040).fOut.fRule.fAfter)), (.int .i64 ((gt x0 a4040).fHeight)), (.bool ((gt x0 a4040).fMined))] ∧ RdS kInt _ u ((gt x0 a4040).fOut.fRule.fKeys) := rd_with1 hp0 e4173
                refine ops_ex rfl (guard_none rfl) rfl rfl (ex_indexAddr (d := kCoin) rfl rfl rfl Try.underlying44 tsz123 hp0 (idx_lo e4173) (idx_hi e4173)) ?_
                refine ops_ex rfl (guard_none rfl) rfl rfl (ex_fieldAddr (off' := so p0 + (a4040).toNat * 8 + 2) rfl rfl Try.underlying123 rfl tsz121 rfl) ?_
                refine ops_ex rfl (guard_none rfl) rfl rfl (ex_fieldAddr (off' := so p0 + (a4040).toNat * 8 + 3) rfl rfl Try.underlying121 rfl tsz119 rfl) ?_
                refine ops_ex rfl (guard_none rfl) rfl rfl (ex_fieldAddr (off' := so p0 + (a4040).toNat * 8 + 5) rfl rfl Try.underlying119 rfl tsz2 rfl) ?_
                refine ops_ex rfl (guard_none rfl) rfl rfl (ex_load1 rfl rfl Try.underlying2 rfl ((HM.at_ hc4174) 5 _ rfl)) ?_
                refine ops_ex rfl (guard_none rfl) rfl rfl (ex_move rfl rfl) ?_
                refine ops_ex rfl (guard_none rfl) rfl rfl (ex_neq rfl rfl rfl) ?_
                refine ops_nil ?_
                refine at_then ?_
                refine run_cond (b := (((gt x0 a4040).fOut.fRule.fAfter) != (wrap64 (t4153 + 1)))) rfl (fun hb4177 => ?_) (fun hb4177 => ?_)
                · replace ho3963 := cond_t hb4177 ho3963
                  refine run_seq ?_
                  refine run_region rfl ?_
                  refine ops_ex rfl (guard_none rfl) rfl rfl (ex_assign rfl rfl) ?_
                  refine ops_nil ?_
                  refine at_then ?_
                  refine run_ret ?_
                  refine at_then_ret ?_
                  refine at_block_ret ?_
                  refine at_then_ret ?_
                  refine at_then_ret ?_
                  refine at_block_ret ?_
                  refine at_then_ret ?_
                  have hR := Option.some.inj ho3963
                  subst hR
                  have hT := thn_inl H
                  have hR := Option.some.inj hT
                  subst hR
                  exact at_ret1 rfl rfl ⟨_, rfl, rfl, HM⟩
                · replace ho3963 := cond_f hb4177 ho3963
                  refine run_skip ?_
                  refine at_then ?_
                  refine run_seq ?_
                  refine run_region rfl ?_
                  refine ops_ex rfl (guard_none rfl) rfl rfl (ex_move rfl rfl) ?_
                  refine ops_ex rfl (guard_none rfl) rfl rfl (ex_add rfl rfl rfl) ?_
                  refine ops_ex rfl (guard_none rfl) rfl rfl (ex_assign rfl rfl) ?_
                  refine ops_nil ?_
                  refine at_then ?_
                  refine run_seq ?_
                  refine run_seq ?_
                  obtain ⟨e4183, ho3963⟩ := chk_some ho3963
                  refine run_region rfl ?_
                  refine ops_ex rfl (guard_none rfl) rfl rfl (ex_move rfl rfl) ?_
                  refine ops_ex rfl (guard_none rfl) rfl rfl (ex_move rfl rfl) ?_
                  obtain ⟨kv4185, hc4184, hk4186⟩ : ∃ u, CellsAt _ (sb p0) (so p0 + (a4040).toNat * 8) [(.int .i64 ((gt x0 a4040).fRef.fTx)), (.int .i64 ((gt x0 a4040).fRef.fAt)), (.int .i64 ((gt x0 a4040).fOut.fValue)), u, (.int .i64 ((gt x0 a4040).fOut.fRule.fNeed)), (.int .i64 ((gt x0 a4040).fOut.fRule.fAfter)), (.int .i64 ((gt x0 a4040).fHeight)), (.bool ((gt x0 a4040).fMined))] ∧ RdS kInt _ u ((gt x0 a4040).fOut.fRule.fKeys) := rd_with1 hp0 e4183
                  refine ops_ex rfl (guard_none rfl) rfl rfl (ex_indexAddr (d := kCoin) rfl rfl rfl Try.underlying44 tsz123 hp0 (idx_lo e4183) (idx_hi e4183)) ?_
                  refine ops_ex rfl (guard_none rfl) rfl rfl (ex_fieldAddr (off' := so p0 + (a4040).toNat * 8 + 6) rfl rfl Try.underlying123 rfl tsz2 rfl) ?_
                  refine ops_ex rfl (guard_none rfl) rfl rfl (ex_load1 rfl rfl Try.underlying2 rfl ((HM.at_ hc4184) 6 _ rfl)) ?_
                  refine ops_ex rfl (guard_none rfl) rfl rfl (ex_move rfl rfl) ?_
                  refine ops_ex rfl (guard_none rfl) rfl rfl (ex_neq rfl rfl rfl) ?_
                  refine ops_nil ?_
                  refine at_then ?_
                  refine run_cond (b := (((gt x0 a4040).fHeight) != (wrap64 ((wrap64 (t4153 + 1)) + 1)))) rfl (fun hb4187 => ?_) (fun hb4187 => ?_)
                  · replace ho3963 := cond_t hb4187 ho3963
                    refine run_seq ?_
                    refine run_region rfl ?_
                    refine ops_ex rfl (guard_none rfl) rfl rfl (ex_assign rfl rfl) ?_
                    refine ops_nil ?_
                    refine at_then ?_
                    refine run_ret ?_
                    refine at_then_ret ?_
                    refine at_block_ret ?_
                    refine at_then_ret ?_
                    refine at_then_ret ?_
                    refine at_block_ret ?_
                    refine at_then_ret ?_
                    have hR := Option.some.inj ho3963
                    subst hR
                    have hT := thn_inl H
                    have hR := Option.some.inj hT
                    subst hR
                    exact at_ret1 rfl rfl ⟨_, rfl, rfl, HM⟩
                  · replace ho3963 := cond_f hb4187 ho3963
                    refine run_skip ?_
                    refine at_then ?_
                    refine run_seq ?_
                    refine run_region rfl ?_
                    refine ops_ex rfl (guard_none rfl) rfl rfl (ex_move rfl rfl) ?_
                    refine ops_ex rfl (guard_none rfl) rfl rfl (ex_add rfl rfl rfl) ?_
                    refine ops_ex rfl (guard_none rfl) rfl rfl (ex_assign rfl rfl) ?_
                    refine ops_nil ?_
                    refine at_then ?_
                    refine run_seq ?_
                    refine run_seq ?_
                    obtain ⟨e4188, ho3963⟩ := chk_some ho3963
                    obtain ⟨e4192, ho3963⟩ := chk_some ho3963
                    refine run_region rfl ?_
                    refine ops_ex rfl (guard_none rfl) rfl rfl (ex_move rfl rfl) ?_
                    refine ops_ex rfl (guard_none rfl) rfl rfl (ex_move rfl rfl) ?_
                    obtain ⟨kv4190, hc4189, hk4191⟩ : ∃ u, CellsAt _ (sb p0) (so p0 + (a4040).toNat * 8) [(.int .i64 ((gt x0 a4040).fRef.fTx)), (.int .i64 ((gt x0 a4040).fRef.fAt)), (.int .i64 ((gt x0 a4040).fOut.fValue)), u, (.int .i64 ((gt x0 a4040).fOut.fRule.fNeed)), (.int .i64 ((gt x0 a4040).fOut.fRule.fAfter)), (.int .i64 ((gt x0 a4040).fHeight)), (.bool ((gt x0 a4040).fMined))] ∧ RdS kInt _ u ((gt x0 a4040).fOut.fRule.fKeys) := rd_with1 hp0 e4188
                    refine ops_ex rfl (guard_none rfl) rfl rfl (ex_indexAddr (d := kCoin) rfl rfl rfl Try.underlying44 tsz123 hp0 (idx_lo e4188) (idx_hi e4188)) ?_
                    refine ops_ex rfl (guard_none rfl) rfl rfl (ex_fieldAddr (off' := so p0 + (a4040).toNat * 8 + 7) rfl rfl Try.underlying123 rfl tsz4 rfl) ?_
                    refine ops_ex rfl (guard_none rfl) rfl rfl (ex_load1 rfl rfl Try.underlying4 rfl ((HM.at_ hc4189) 7 _ rfl)) ?_
                    refine ops_ex rfl (guard_none rfl) rfl rfl (ex_move rfl rfl) ?_
                    refine ops_ex rfl (guard_none rfl) rfl rfl (ex_remk rfl rfl rfl e4192) ?_
                    refine ops_ex rfl (guard_none rfl) rfl rfl (ex_eql rfl rfl rfl) ?_
                    refine ops_ex rfl (guard_none rfl) rfl rfl (ex_bneq rfl rfl rfl Try.underlying4) ?_
                    refine ops_nil ?_
                    refine at_then ?_
                    refine run_cond (b := (((gt x0 a4040).fMined) != ((Int.tmod (wrap64 ((wrap64 ((wrap64 (t4153 + 1)) + 1)) + 1)) (3 : Int)) == 0))) rfl (fun hb4193 => ?_) (fun hb4193 => ?_)
                    · replace ho3963 := cond_t hb4193 ho3963
                      refine run_seq ?_
                      refine run_region rfl ?_
                      refine ops_ex rfl (guard_none rfl) rfl rfl (ex_assign rfl rfl) ?_
                      refine ops_nil ?_
                      refine at_then ?_
                      refine run_ret ?_
                      refine at_then_ret ?_
                      refine at_block_ret ?_
                      refine at_then_ret ?_
                      refine at_then_ret ?_
                      refine at_block_ret ?_
                      refine at_then_ret ?_
                      have hR := Option.some.inj ho3963
                      subst hR
                      have hT := thn_inl H
                      have hR := Option.some.inj hT
                      subst hR
                      exact at_ret1 rfl rfl ⟨_, rfl, rfl, HM⟩
                    · replace ho3963 := cond_f hb4193 ho3963
                      refine run_skip ?_
                      refine at_then ?_
                      refine run_region rfl ?_
                      refine ops_ex rfl (guard_none rfl) rfl rfl (ex_move rfl rfl) ?_
                      refine ops_ex rfl (guard_none rfl) rfl rfl (ex_add rfl rfl rfl) ?_
                      refine ops_ex rfl (guard_none rfl) rfl rfl (ex_assign rfl rfl) ?_
                      refine ops_nil ?_
                      refine at_block ?_
                      refine at_then ?_
                      refine run_region rfl ?_
                      refine ops_ex rfl (guard_none rfl) rfl rfl (ex_move rfl rfl) ?_
                      refine ops_ex rfl (guard_none rfl) rfl rfl (ex_add rfl rfl rfl) ?_
                      refine ops_ex rfl (guard_none rfl) rfl rfl (ex_assign rfl rfl) ?_
                      refine ops_nil ?_
                      exact at_again k4116 (ρ1 := [(0, p0), (1, .int .i64 (wrap64 ((wrap64 ((wrap64 ((wrap64 (t4153 + 1)) + 1)) + 1)) + 1))), (5, .int .i64 (wrap64 (a4040 + 1)))]) (Nat.lt_succ_self _) ⟨_, _, ho3963, rfl, HM⟩ (Sub.cons rfl (Sub.cons rfl (Sub.cons rfl Sub.nil)))
    · replace ho3963 := cond_f hb4118 ho3963
      refine run_exit ?_
      refine at_then_exit ?_
      refine at_then_exit ?_
      refine at_block_exit ?_
      exact at_mid (ρ' := [(1, .int .i64 a4039)]) ⟨_, (Option.some.inj ho3963), rfl, HM⟩ (Sub.cons rfl Sub.nil)
  · rintro _ w4194 ⟨a3961, rfl, rfl, HM⟩
    replace H := (thn_inr H)
    refine run_seq ?_
    refine run_region rfl ?_
    refine ops_ex rfl (guard_none rfl) rfl rfl (ex_move rfl rfl) ?_
    refine ops_ex rfl (guard_none rfl) rfl rfl (ex_assign rfl rfl) ?_
    refine ops_nil ?_
    refine at_then ?_
    refine run_ret ?_
    have hR := Option.some.inj H
    subst hR
    exact at_ret1 rfl rfl ⟨_, rfl, rfl, HM⟩
end Go.Proofs.Ytigojhglkilodaa.Zk
