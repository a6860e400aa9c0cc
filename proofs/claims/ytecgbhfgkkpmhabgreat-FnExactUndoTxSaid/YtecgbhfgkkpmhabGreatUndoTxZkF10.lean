/- What functions of the program compute, each as a plain function, and that they do. Conditions: as each theorem states them. -/
import Derived.Test.YtecgbhfgkkpmhabGreatUndoTxZkF9
namespace Go.Proofs.YtecgbhfgkkpmhabGreat.Zk
open Go Go.RowKit Go.IntWalk Go.Proofs
set_option linter.unusedVariables false
set_option linter.unusedSimpArgs false
set_option maxRecDepth 100000
set_option maxHeartbeats 4000000
def impl_UndoTx.l0 (t6227 : Int) (t6229 : Int) (t6231 : Int) : Nat → Int → Option (CoinsResult ⊕ Unit)
  | 0, _ => none
  | k + 1, a6243 => (bif (decide (a6243 < (([t6227, t6229, t6231] : List Int).length : Int))) then (chk (idxOk a6243 ([t6227, t6229, t6231] : List Int).length) (bif ((gt ([t6227, t6229, t6231] : List Int) a6243) != 0) then some (.inl (⟨(gt ([t6227, t6229, t6231] : List Int) a6243), ([] : List Coin)⟩ : CoinsResult)) else impl_UndoTx.l0 t6227 t6229 t6231 k (wrap64 (a6243 + 1)))) else some (.inr ()))
theorem impl_UndoTx.l0_z (t6227 : Int) (t6229 : Int) (t6231 : Int) (a6243 : Int) : impl_UndoTx.l0 t6227 t6229 t6231 0 a6243 = none := rfl
theorem impl_UndoTx.l0_s (t6227 : Int) (t6229 : Int) (t6231 : Int) (k : Nat) (a6243 : Int) : impl_UndoTx.l0 t6227 t6229 t6231 (k + 1) a6243 = (bif (decide (a6243 < (([t6227, t6229, t6231] : List Int).length : Int))) then (chk (idxOk a6243 ([t6227, t6229, t6231] : List Int).length) (bif ((gt ([t6227, t6229, t6231] : List Int) a6243) != 0) then some (.inl (⟨(gt ([t6227, t6229, t6231] : List Int) a6243), ([] : List Coin)⟩ : CoinsResult)) else impl_UndoTx.l0 t6227 t6229 t6231 k (wrap64 (a6243 + 1)))) else some (.inr ())) := rfl
def impl_UndoTx.f (k : Nat) (x0 : List Coin) (x1 : Tx) (x2 : Int) (x3 : List Coin) : Option CoinsResult := (((impl_CoinsFault.f k x0).bind fun t6227 => ((impl_CoinsFault.f k x3).bind fun t6229 => ((impl_TxFault.f k x1).bind fun t6231 => impl_UndoTx.l0 t6227 t6229 t6231 k 0))).bind fun o6225 => thn o6225 (fun r => some r) (fun _ => ((impl_undoTx.f k x0 x1 x2 x3).bind fun t6255 => some (⟨t6255.2, t6255.1⟩ : CoinsResult))))
theorem impl_UndoTx.calls {k : Nat} {x0 : List Coin} {x1 : Tx} {x2 : Int} {x3 : List Coin} {p0 : Value} {p1_0 : Value} {p1_1 : Value} {p3 : Value} {w : World} (hp0 : RdS kCoin w p0 x0) (hp1_0 : RdS kRef w p1_0 x1.fIns) (hp1_1 : RdS kOut w p1_1 x1.fOuts) (hp3 : RdS kCoin w p3 x3) {r : CoinsResult} (H : impl_UndoTx.f k x0 x1 x2 x3 = some r) :
    Calls Tryz.prog 9 ([p0, .agg #[(.int .i64 x1.fKind), (.int .i64 x1.fMember), p1_0, p1_1], .int .i64 x2, p3] : List Value).toArray w (fun e w_ => ∃ v, e = .returned v ∧ ∃ u0 : Value, v = (.agg #[.int .i64 r.fCode, u0]) ∧ Mem w [] w_ [own kCoin 72 u0 r.fCoins]) := by
  have HM := Mem.start w
  refine calls_run (N := 41) Tryz.func9 rfl rfl rfl rfl ?_
  unfold impl_UndoTx.f at H
  refine run_seq ?_
  refine run_region rfl ?_
  refine od rfl rfl rfl rfl (does_box (cs := [.int .i64 x1.fKind, .int .i64 x1.fMember, p1_0, p1_1]) rfl rfl rfl HM) ?_
  rintro _ w6204 ⟨b6198, rfl, HM⟩
  refine od rfl rfl rfl rfl (does_alloc (cs := [.int .i64 0, .slice none 0 0]) rfl tz31 rfl HM) ?_
  rintro _ w6205 ⟨b6201, rfl, HM⟩
  refine ops_nil (at_then ?_)
  obtain ⟨o6225, ho6226, H⟩ := bind_some H
  refine run_mid (fun ρ_ w_ => Sum.inr () = o6225 ∧ ρ_ = [(0, p0), (2, .int .i64 x2), (3, p3), (5, .pointer (some ⟨b6198, 0, none⟩)), (8, .pointer (some ⟨b6201, 0, none⟩))] ∧ Mem w [] w_ [box b6198 37 [.int .i64 x1.fKind, .int .i64 x1.fMember, p1_0, p1_1], box b6201 31 [.int .i64 0, .slice none 0 0]]) ?_ ?_
  · skip
    refine run_seq ?_
    obtain ⟨t6227, h6228, ho6226⟩ := bind_some ho6226
    obtain ⟨t6229, h6230, ho6226⟩ := bind_some ho6226
    obtain ⟨t6231, h6232, ho6226⟩ := bind_some ho6226
    refine run_drawf (fun w_ => Mem w [] w_ [box b6201 31 [.int .i64 0, .slice none 0 0], box b6198 37 [.int .i64 x1.fKind, .int .i64 x1.fMember, p1_0, p1_1]]) [(0, true), (2, true), (4, true), (8, true), (1, false), (3, false), (5, false), (6, false), (7, true)] mixed rfl rfl (by kernel_rfl) ?_
    replace HM := HM.grow (fr_drew _)
    have hS := Mem.suf (M := []) HM
    refine dp rfl rfl rfl rfl (ex_move rfl rfl) hS ?_
    refine dp rfl rfl rfl rfl (ex_move rfl rfl) hS ?_
    refine drwp_take rfl (guard_none rfl) rfl rfl (fun w_ hS_ => (ex_loadN (cs := [(.int .i64 x1.fKind), (.int .i64 x1.fMember), p1_0, p1_1]) rfl rfl Tryz.underlying37 rfl tsz37 rfl ((hS_.box_at 1 rfl).sub 0 4 rfl))) hS ?_
    refine dp rfl rfl rfl rfl (ex_move rfl rfl) hS ?_
    refine drwp_one rfl (guard_none rfl) rfl rfl (does_callk rfl callok30 rfl (impl_CoinsFault.calls (x0 := x0) (HM.rd hp0) h6228)) ?_
    rintro _ w6236 ⟨rfl, hn⟩
    replace HM : Mem w [] w6236 [box b6201 31 [.int .i64 0, .slice none 0 0], box b6198 37 [.int .i64 x1.fKind, .int .i64 x1.fMember, p1_0, p1_1]] := HM.call hn
    have hS := Mem.suf (M := []) HM
    refine ⟨hS, ?_⟩
    refine drwp_one rfl (guard_none rfl) rfl rfl (does_callk rfl callok30 rfl (impl_CoinsFault.calls (x0 := x3) (HM.rd hp3) h6230)) ?_
    rintro _ w6237 ⟨rfl, hn⟩
    replace HM : Mem w [] w6237 [box b6201 31 [.int .i64 0, .slice none 0 0], box b6198 37 [.int .i64 x1.fKind, .int .i64 x1.fMember, p1_0, p1_1]] := HM.call hn
    have hS := Mem.suf (M := []) HM
    refine ⟨hS, ?_⟩
    refine drwp_one rfl (guard_none rfl) rfl rfl (does_callk rfl callok31 rfl (impl_TxFault.calls (x0 := x1) (HM.rd hp1_0) (HM.rd hp1_1) h6232)) ?_
    rintro _ w6238 ⟨rfl, hn⟩
    replace HM : Mem w [] w6238 [box b6201 31 [.int .i64 0, .slice none 0 0], box b6198 37 [.int .i64 x1.fKind, .int .i64 x1.fMember, p1_0, p1_1]] := HM.call hn
    have hS := Mem.suf (M := []) HM
    refine ⟨hS, ?_⟩
    refine drwp_one rfl (guard_none rfl) rfl rfl (does_lit (e := 2) (cs := [.int .i64 t6227, .int .i64 t6229, .int .i64 t6231]) (xs := ([t6227, t6229, t6231] : List Int)) kInt rfl rfl (fun _ => by kernel_rfl) rfl rfl (fun _ _ h => by have h' : _ = [] := h; subst h'; exact (Elems.cons (d := kInt) (x := t6227) (f := []) ⟨rfl, rfl⟩ (Elems.cons (d := kInt) (x := t6229) (f := []) ⟨rfl, rfl⟩ (Elems.cons (d := kInt) (x := t6231) (f := []) ⟨rfl, rfl⟩ .nil)))) HM.emp) ?_
    rintro v6233 w6239 HM
    have hS := Mem.suf (M := [own kInt 2 v6233 ([t6227, t6229, t6231] : List Int)]) HM
    refine ⟨hS, ?_⟩
    refine dp rfl rfl rfl rfl (ex_len (d := kInt) (xs := ([t6227, t6229, t6231] : List Int)) rfl rfl Tryz.underlying49 (HM.own_rd 0 rfl)) hS ?_
    refine drwp_done ?_
    refine at_then ?_
    refine run_block ?_
    replace HM := HM.front 1 rfl rfl
    replace HM := HM.front 2 rfl rfl
    refine run_loop (fun k_ ρ_ w_ => ∃ a6243 : Int, impl_UndoTx.l0 t6227 t6229 t6231 k_ a6243 = some o6225 ∧ ρ_ = [(0, p0), (2, .int .i64 x2), (3, p3), (5, .pointer (some ⟨b6198, 0, none⟩)), (8, .pointer (some ⟨b6201, 0, none⟩)), (21, .int .i64 a6243), (19, v6233), (20, .int .i64 (([t6227, t6229, t6231] : List Int).length : Int))] ∧ Mem w [] w_ [box b6198 37 [.int .i64 x1.fKind, .int .i64 x1.fMember, p1_0, p1_1], box b6201 31 [.int .i64 0, .slice none 0 0], own kInt 2 v6233 ([t6227, t6229, t6231] : List Int)]) k (ρ1 := [(0, p0), (2, .int .i64 x2), (3, p3), (5, .pointer (some ⟨b6198, 0, none⟩)), (8, .pointer (some ⟨b6201, 0, none⟩)), (21, .int .i64 0), (19, v6233), (20, .int .i64 (([t6227, t6229, t6231] : List Int).length : Int))]) ⟨_, ho6226, rfl, HM⟩ (Sub.cons rfl (Sub.cons rfl (Sub.cons rfl (Sub.cons rfl (Sub.cons rfl (Sub.cons rfl (Sub.cons rfl (Sub.cons rfl Sub.nil)))))))) ?_
    clear HM ho6226
    rintro k6247 _ w6248 ⟨a6243, ho6226, rfl, HM⟩
    obtain _ | k6247 := k6247
    · exact nomatch ((impl_UndoTx.l0_z t6227 t6229 t6231 a6243).symm.trans ho6226)
    replace ho6226 := (impl_UndoTx.l0_s t6227 t6229 t6231 k6247 a6243).symm.trans ho6226
    refine run_seq ?_
    refine run_region rfl ?_
    refine ox rfl rfl rfl rfl (ex_lss rfl rfl rfl) ?_
    refine ops_nil (at_then (run_seq ?_))
    refine run_cond (b := (decide (a6243 < (([t6227, t6229, t6231] : List Int).length : Int)))) rfl (fun hb6249 => ?_) (fun hb6249 => ?_)
    · replace ho6226 := cond_t hb6249 ho6226
      refine run_skip ?_
      refine at_then ?_
      refine run_seq ?_
      refine run_block ?_
      refine run_seq ?_
      obtain ⟨e6250, ho6226⟩ := chk_some ho6226
      refine run_region rfl ?_
      refine ox rfl rfl rfl rfl (ex_indexAddr (d := kInt) rfl rfl rfl Tryz.underlying49 tsz2 (HM.own_rd 2 rfl) (idx_lo e6250) (idx_hi e6250)) ?_
      refine ox rfl rfl rfl rfl (ex_load1 rfl rfl Tryz.underlying2 rfl ((rd_plain (HM.own_rd 2 rfl) e6250) 0 _ rfl)) ?_
      refine ox rfl rfl rfl rfl (ex_assign rfl rfl) ?_
      refine ops_nil (at_then (run_seq ?_))
      refine run_region rfl ?_
      refine ox rfl rfl rfl rfl (ex_move rfl rfl) ?_
      refine ox rfl rfl rfl rfl (ex_neq rfl rfl rfl) ?_
      refine ops_nil (at_then ?_)
      refine run_cond (b := ((gt ([t6227, t6229, t6231] : List Int) a6243) != 0)) rfl (fun hb6251 => ?_) (fun hb6251 => ?_)
      · replace ho6226 := cond_t hb6251 ho6226
        refine run_seq ?_
        refine run_region rfl ?_
        refine ox rfl rfl rfl rfl (ex_move rfl rfl) ?_
        refine ox rfl rfl rfl rfl (ex_build (cells := #[(.int .i64 (gt ([t6227, t6229, t6231] : List Int) a6243)), (.slice none 0 0)]) rfl rfl (by kernel_rfl)) ?_
        replace HM := HM.front 1 rfl rfl
        refine odS rfl rfl rfl (does_store (vs := [.int .i64 (gt ([t6227, t6229, t6231] : List Int) a6243), .slice none 0 0]) (cs' := [.int .i64 (gt ([t6227, t6229, t6231] : List Int) a6243), .slice none 0 0]) rfl rfl rfl rfl tsz31 (Ones.int (Ones.sl Ones.nil)) rfl rfl HM) ?_
        rintro w6252 HM
        refine ops_nil (at_then ?_)
        refine run_ret ?_
        refine at_block_ret ?_
        refine at_then_ret ?_
        refine at_then_ret ?_
        refine at_block_ret ?_
        refine at_then_ret ?_
        replace HM := HM.empty kCoin 72 none
        replace HM := (HM.front 2 rfl rfl).drop
        replace HM := (HM.front 2 rfl rfl).drop
        replace HM := HM.front 1 rfl rfl
        have hcb0 := HM.box_at 0 rfl
        replace HM := (HM.front 0 rfl rfl).drop
        have hR := Option.some.inj ho6226
        subst hR
        have hT := thn_inl H
        have hR := Option.some.inj hT
        subst hR
        exact at_retN rfl rfl Tryz.underlying31 rfl tsz31 rfl hcb0 ⟨_, rfl, _, rfl, HM⟩
      · replace ho6226 := cond_f hb6251 ho6226
        refine run_skip ?_
        refine at_block ?_
        refine at_then ?_
        refine run_region rfl ?_
        refine ox rfl rfl rfl rfl (ex_add rfl rfl rfl) ?_
        refine ox rfl rfl rfl rfl (ex_move rfl rfl) ?_
        refine ops_nil ?_
        exact at_again k6247 (ρ1 := [(0, p0), (2, .int .i64 x2), (3, p3), (5, .pointer (some ⟨b6198, 0, none⟩)), (8, .pointer (some ⟨b6201, 0, none⟩)), (21, .int .i64 (wrap64 (a6243 + 1))), (19, v6233), (20, .int .i64 (([t6227, t6229, t6231] : List Int).length : Int))]) (Nat.lt_succ_self _) ⟨_, ho6226, rfl, HM⟩ (Sub.cons rfl (Sub.cons rfl (Sub.cons rfl (Sub.cons rfl (Sub.cons rfl (Sub.cons rfl (Sub.cons rfl (Sub.cons rfl Sub.nil))))))))
    · replace ho6226 := cond_f hb6249 ho6226
      refine run_exit ?_
      refine at_then_exit ?_
      refine at_then_exit ?_
      refine at_block_exit ?_
      replace HM := (HM.front 2 rfl rfl).drop
      exact at_mid (ρ' := [(0, p0), (2, .int .i64 x2), (3, p3), (5, .pointer (some ⟨b6198, 0, none⟩)), (8, .pointer (some ⟨b6201, 0, none⟩))]) ⟨(Option.some.inj ho6226), rfl, HM⟩ (Sub.cons rfl (Sub.cons rfl (Sub.cons rfl (Sub.cons rfl (Sub.cons rfl Sub.nil)))))
  · rintro _ w6254 ⟨rfl, rfl, HM⟩
    replace H := (thn_inr H)
    refine run_seq ?_
    obtain ⟨t6255, h6256, H⟩ := bind_some H
    refine run_region rfl ?_
    refine ox rfl rfl rfl rfl (ex_move rfl rfl) ?_
    refine ox rfl rfl rfl rfl (ex_loadN (cs := [(.int .i64 x1.fKind), (.int .i64 x1.fMember), p1_0, p1_1]) rfl rfl Tryz.underlying37 rfl tsz37 rfl ((HM.box_at 0 rfl).sub 0 4 rfl)) ?_
    refine ox rfl rfl rfl rfl (ex_move rfl rfl) ?_
    refine ox rfl rfl rfl rfl (ex_move rfl rfl) ?_
    refine od rfl rfl rfl rfl (does_callk rfl callok32 rfl (impl_undoTx.calls (x0 := x0) (x1 := x1) (x2 := x2) (x3 := x3) (HM.rd hp0) (HM.rd hp1_0) (HM.rd hp1_1) (HM.rd hp3) h6256)) ?_
    rintro _ w6259 ⟨u6257, rfl, hn⟩
    replace HM : Mem w [] w6259 [own kCoin 72 u6257 t6255.1, box b6198 37 [.int .i64 x1.fKind, .int .i64 x1.fMember, p1_0, p1_1], box b6201 31 [.int .i64 0, .slice none 0 0]] := HM.call hn
    refine ox rfl rfl rfl rfl (ex_move rfl rfl) ?_
    refine ox rfl rfl rfl rfl (ex_extract rfl rfl rfl) ?_
    refine ox rfl rfl rfl rfl (ex_extract rfl rfl rfl) ?_
    refine ox rfl rfl rfl rfl (ex_assign rfl rfl) ?_
    refine ox rfl rfl rfl rfl (ex_assign rfl rfl) ?_
    refine ops_nil (at_then (run_seq ?_))
    refine run_region rfl ?_
    refine ox rfl rfl rfl rfl (ex_move rfl rfl) ?_
    refine ox rfl rfl rfl rfl (ex_move rfl rfl) ?_
    refine ox rfl rfl rfl rfl (ex_build1 (fun u6257 => [(0, .int .i64 t6255.2), (1, u6257)]) (fun u6257 => #[.int .i64 t6255.2, u6257]) rfl rfl (fun _ _ _ => by kernel_rfl) (HM.own_rd 0 rfl).isSl) ?_
    replace HM := HM.front 2 rfl rfl
    refine odS rfl rfl rfl (does_store (vs := [.int .i64 t6255.2, u6257]) (cs' := [.int .i64 t6255.2, u6257]) rfl rfl rfl rfl tsz31 (Ones.int (Ones.rd (HM.own_rd 1 rfl) Ones.nil)) rfl rfl HM) ?_
    rintro w6260 HM
    refine ops_nil (at_then ?_)
    refine run_ret ?_
    replace HM := (HM.front 2 rfl rfl).drop
    have hcb0 := HM.box_at 0 rfl
    replace HM := (HM.front 0 rfl rfl).drop
    have hR := Option.some.inj H
    subst hR
    exact at_retN rfl rfl Tryz.underlying31 rfl tsz31 rfl hcb0 ⟨_, rfl, _, rfl, HM⟩

def laws_eqRef.f (k : Nat) (x0 : Ref) (x1 : Ref) : Option Bool := (bif (x0.fTx != x1.fTx) then some false else (bif (x0.fAt != x1.fAt) then some false else some true))
theorem laws_eqRef.calls {k : Nat} {x0 : Ref} {x1 : Ref}  {w : World}  {r : Bool} (H : laws_eqRef.f k x0 x1 = some r) :
    Calls Tryz.prog 72 ([.agg #[(.int .i64 x0.fTx), (.int .i64 x0.fAt)], .agg #[(.int .i64 x1.fTx), (.int .i64 x1.fAt)]] : List Value).toArray w (fun e w_ => ∃ v, e = .returned v ∧ v = (.bool r) ∧ Mem w [] w_ []) := by
  have HM := Mem.start w
  refine calls_run (N := 15) Tryz.func72 rfl rfl rfl rfl ?_
  unfold laws_eqRef.f at H
  refine run_seq ?_
  refine run_region rfl ?_
  refine od rfl rfl rfl rfl (does_box (cs := [.int .i64 x0.fTx, .int .i64 x0.fAt]) rfl rfl rfl HM) ?_
  rintro _ w6308 ⟨b6302, rfl, HM⟩
  refine od rfl rfl rfl rfl (does_box (cs := [.int .i64 x1.fTx, .int .i64 x1.fAt]) rfl rfl rfl HM) ?_
  rintro _ w6309 ⟨b6305, rfl, HM⟩
  refine ox rfl rfl rfl rfl (ex_assign rfl rfl) ?_
  refine ops_nil (at_then (run_seq ?_))
  refine run_seq ?_
  refine run_region rfl ?_
  refine ox rfl rfl rfl rfl (ex_fieldAddr (off' := 0) rfl rfl Tryz.underlying66 rfl tsz2 rfl) ?_
  refine ox rfl rfl rfl rfl (ex_load1 rfl rfl Tryz.underlying2 rfl ((HM.box_at 1 rfl) 0 _ rfl)) ?_
  refine ox rfl rfl rfl rfl (ex_fieldAddr (off' := 0) rfl rfl Tryz.underlying66 rfl tsz2 rfl) ?_
  refine ox rfl rfl rfl rfl (ex_load1 rfl rfl Tryz.underlying2 rfl ((HM.box_at 0 rfl) 0 _ rfl)) ?_
  refine ox rfl rfl rfl rfl (ex_neq rfl rfl rfl) ?_
  refine ops_nil (at_then ?_)
  refine run_cond (b := (x0.fTx != x1.fTx)) rfl (fun hb6311 => ?_) (fun hb6311 => ?_)
  · replace H := cond_t hb6311 H
    refine run_seq ?_
    refine run_region rfl ?_
    refine ox rfl rfl rfl rfl (ex_assign rfl rfl) ?_
    refine ops_nil (at_then ?_)
    refine run_ret ?_
    refine at_then_ret ?_
    replace HM := (HM.front 0 rfl rfl).drop
    replace HM := (HM.front 0 rfl rfl).drop
    have hR := Option.some.inj H
    subst hR
    exact at_ret1 rfl rfl ⟨_, rfl, rfl, HM⟩
  · replace H := cond_f hb6311 H
    refine run_skip ?_
    refine at_then ?_
    refine run_seq ?_
    refine run_seq ?_
    refine run_region rfl ?_
    refine ox rfl rfl rfl rfl (ex_fieldAddr (off' := 1) rfl rfl Tryz.underlying66 rfl tsz2 rfl) ?_
    refine ox rfl rfl rfl rfl (ex_load1 rfl rfl Tryz.underlying2 rfl ((HM.box_at 1 rfl) 1 _ rfl)) ?_
    refine ox rfl rfl rfl rfl (ex_fieldAddr (off' := 1) rfl rfl Tryz.underlying66 rfl tsz2 rfl) ?_
    refine ox rfl rfl rfl rfl (ex_load1 rfl rfl Tryz.underlying2 rfl ((HM.box_at 0 rfl) 1 _ rfl)) ?_
    refine ox rfl rfl rfl rfl (ex_neq rfl rfl rfl) ?_
    refine ops_nil (at_then ?_)
    refine run_cond (b := (x0.fAt != x1.fAt)) rfl (fun hb6312 => ?_) (fun hb6312 => ?_)
    · replace H := cond_t hb6312 H
      refine run_seq ?_
      refine run_region rfl ?_
      refine ox rfl rfl rfl rfl (ex_assign rfl rfl) ?_
      refine ops_nil (at_then ?_)
      refine run_ret ?_
      refine at_then_ret ?_
      replace HM := (HM.front 0 rfl rfl).drop
      replace HM := (HM.front 0 rfl rfl).drop
      have hR := Option.some.inj H
      subst hR
      exact at_ret1 rfl rfl ⟨_, rfl, rfl, HM⟩
    · replace H := cond_f hb6312 H
      refine run_skip ?_
      refine at_then ?_
      refine run_seq ?_
      refine run_region rfl ?_
      refine ox rfl rfl rfl rfl (ex_assign rfl rfl) ?_
      refine ops_nil (at_then ?_)
      refine run_ret ?_
      replace HM := (HM.front 0 rfl rfl).drop
      replace HM := (HM.front 0 rfl rfl).drop
      have hR := Option.some.inj H
      subst hR
      exact at_ret1 rfl rfl ⟨_, rfl, rfl, HM⟩

def laws_eqInt64S.l0 (x0 : List Int) (x1 : List Int) : Nat → Int → Option (Bool ⊕ Unit)
  | 0, _ => none
  | k + 1, a6385 => (bif (decide (a6385 < (x0.length : Int))) then (chk (idxOk a6385 x0.length) (chk (idxOk a6385 x1.length) (bif ((gt x0 a6385) != (gt x1 a6385)) then some (.inl false) else laws_eqInt64S.l0 x0 x1 k (wrap64 (a6385 + 1))))) else some (.inr ()))
theorem laws_eqInt64S.l0_z (x0 : List Int) (x1 : List Int) (a6385 : Int) : laws_eqInt64S.l0 x0 x1 0 a6385 = none := rfl
theorem laws_eqInt64S.l0_s (x0 : List Int) (x1 : List Int) (k : Nat) (a6385 : Int) : laws_eqInt64S.l0 x0 x1 (k + 1) a6385 = (bif (decide (a6385 < (x0.length : Int))) then (chk (idxOk a6385 x0.length) (chk (idxOk a6385 x1.length) (bif ((gt x0 a6385) != (gt x1 a6385)) then some (.inl false) else laws_eqInt64S.l0 x0 x1 k (wrap64 (a6385 + 1))))) else some (.inr ())) := rfl
def laws_eqInt64S.f (k : Nat) (x0 : List Int) (x1 : List Int) : Option Bool := (bif ((x0.length : Int) != (x1.length : Int)) then some false else ((laws_eqInt64S.l0 x0 x1 k 0).bind fun o6377 => thn o6377 (fun r => some r) (fun _ => some true)))
theorem laws_eqInt64S.calls {k : Nat} {x0 : List Int} {x1 : List Int} {p0 : Value} {p1 : Value} {w : World} (hp0 : RdS kInt w p0 x0) (hp1 : RdS kInt w p1 x1) {r : Bool} (H : laws_eqInt64S.f k x0 x1 = some r) :
    Calls Tryz.prog 107 ([p0, p1] : List Value).toArray w (fun e w_ => ∃ v, e = .returned v ∧ v = (.bool r) ∧ Mem w [] w_ []) := by
  have HM := Mem.start w
  refine calls_run (N := 26) Tryz.func107 rfl rfl rfl rfl ?_
  unfold laws_eqInt64S.f at H
  refine run_seq ?_
  refine run_region rfl ?_
  refine ox rfl rfl rfl rfl (ex_assign rfl rfl) ?_
  refine ops_nil (at_then (run_seq ?_))
  refine run_seq ?_
  refine run_region rfl ?_
  refine ox rfl rfl rfl rfl (ex_move rfl rfl) ?_
  refine ox rfl rfl rfl rfl (ex_len (d := kInt) (xs := x0) rfl rfl Tryz.underlying49 hp0) ?_
  refine ox rfl rfl rfl rfl (ex_move rfl rfl) ?_
  refine ox rfl rfl rfl rfl (ex_len (d := kInt) (xs := x1) rfl rfl Tryz.underlying49 hp1) ?_
  refine ox rfl rfl rfl rfl (ex_neq rfl rfl rfl) ?_
  refine ops_nil (at_then ?_)
  refine run_cond (b := ((x0.length : Int) != (x1.length : Int))) rfl (fun hb6357 => ?_) (fun hb6357 => ?_)
  · replace H := cond_t hb6357 H
    refine run_seq ?_
    refine run_region rfl ?_
    refine ox rfl rfl rfl rfl (ex_assign rfl rfl) ?_
    refine ops_nil (at_then ?_)
    refine run_ret ?_
    refine at_then_ret ?_
    have hR := Option.some.inj H
    subst hR
    exact at_ret1 rfl rfl ⟨_, rfl, rfl, HM⟩
  · replace H := cond_f hb6357 H
    refine run_skip ?_
    refine at_then ?_
    obtain ⟨o6377, ho6378, H⟩ := bind_some H
    refine run_mid (fun ρ_ w_ => Sum.inr () = o6377 ∧ ρ_ = [] ∧ Mem w [] w_ []) ?_ ?_
    · skip
      refine run_seq ?_
      refine run_region rfl ?_
      refine ox rfl rfl rfl rfl (ex_assign rfl rfl) ?_
      refine ops_nil (at_then ?_)
      refine run_block ?_
      refine run_loop (fun k_ ρ_ w_ => ∃ a6385 : Int, laws_eqInt64S.l0 x0 x1 k_ a6385 = some o6377 ∧ ρ_ = [(0, p0), (1, p1), (5, .int .i64 a6385)] ∧ Mem w [] w_ []) k (ρ1 := [(0, p0), (1, p1), (5, .int .i64 0)]) ⟨_, ho6378, rfl, HM⟩ (Sub.cons rfl (Sub.cons rfl (Sub.cons rfl Sub.nil))) ?_
      clear HM ho6378
      rintro k6392 _ w6393 ⟨a6385, ho6378, rfl, HM⟩
      obtain _ | k6392 := k6392
      · exact nomatch ((laws_eqInt64S.l0_z x0 x1 a6385).symm.trans ho6378)
      replace ho6378 := (laws_eqInt64S.l0_s x0 x1 k6392 a6385).symm.trans ho6378
      refine run_seq ?_
      refine run_seq ?_
      refine run_region rfl ?_
      refine ox rfl rfl rfl rfl (ex_move rfl rfl) ?_
      refine ox rfl rfl rfl rfl (ex_move rfl rfl) ?_
      refine ox rfl rfl rfl rfl (ex_len (d := kInt) (xs := x0) rfl rfl Tryz.underlying49 hp0) ?_
      refine ox rfl rfl rfl rfl (ex_lss rfl rfl rfl) ?_
      refine ops_nil (at_then ?_)
      refine run_cond (b := (decide (a6385 < (x0.length : Int)))) rfl (fun hb6394 => ?_) (fun hb6394 => ?_)
      · replace ho6378 := cond_t hb6394 ho6378
        refine run_skip ?_
        refine at_then ?_
        refine run_seq ?_
        refine run_block ?_
        refine run_seq ?_
        obtain ⟨e6395, ho6378⟩ := chk_some ho6378
        obtain ⟨e6397, ho6378⟩ := chk_some ho6378
        refine run_drawf (fun w_ => Mem w [] w_ []) [(0, true), (1, true), (2, true), (3, true), (4, true), (5, true), (6, true), (7, true), (8, true)] mixed rfl rfl (by kernel_rfl) ?_
        replace HM := HM.grow (fr_drew _)
        have hS := Mem.suf (M := []) HM
        refine dp rfl rfl rfl rfl (ex_move rfl rfl) hS ?_
        refine dp rfl rfl rfl rfl (ex_move rfl rfl) hS ?_
        have hc6396 : CellsAt _ (sb p0) (so p0 + (a6385).toNat * 1) [(.int .i64 (gt x0 a6385))] := rd_plain hp0 e6395
        refine dp rfl rfl rfl rfl (ex_indexAddr (d := kInt) rfl rfl rfl Tryz.underlying49 tsz2 hp0 (idx_lo e6395) (idx_hi e6395)) hS ?_
        refine drwp_take rfl (guard_none rfl) rfl rfl (fun w_ hS_ => (ex_load1 rfl rfl Tryz.underlying2 rfl ((hS_.at_ hc6396) 0 _ rfl))) hS ?_
        refine dp rfl rfl rfl rfl (ex_move rfl rfl) hS ?_
        refine dp rfl rfl rfl rfl (ex_move rfl rfl) hS ?_
        have hc6398 : CellsAt _ (sb p1) (so p1 + (a6385).toNat * 1) [(.int .i64 (gt x1 a6385))] := rd_plain hp1 e6397
        refine dp rfl rfl rfl rfl (ex_indexAddr (d := kInt) rfl rfl rfl Tryz.underlying49 tsz2 hp1 (idx_lo e6397) (idx_hi e6397)) hS ?_
        refine drwp_take rfl (guard_none rfl) rfl rfl (fun w_ hS_ => (ex_load1 rfl rfl Tryz.underlying2 rfl ((hS_.at_ hc6398) 0 _ rfl))) hS ?_
        refine dp rfl rfl rfl rfl (ex_neq rfl rfl rfl) hS ?_
        refine drwp_done ?_
        refine at_then ?_
        refine run_cond (b := ((gt x0 a6385) != (gt x1 a6385))) rfl (fun hb6399 => ?_) (fun hb6399 => ?_)
        · replace ho6378 := cond_t hb6399 ho6378
          refine run_seq ?_
          refine run_region rfl ?_
          refine ox rfl rfl rfl rfl (ex_assign rfl rfl) ?_
          refine ops_nil (at_then ?_)
          refine run_ret ?_
          refine at_block_ret ?_
          refine at_then_ret ?_
          refine at_then_ret ?_
          refine at_block_ret ?_
          refine at_then_ret ?_
          have hR := Option.some.inj ho6378
          subst hR
          have hT := thn_inl H
          have hR := Option.some.inj hT
          subst hR
          exact at_ret1 rfl rfl ⟨_, rfl, rfl, HM⟩
        · replace ho6378 := cond_f hb6399 ho6378
          refine run_skip ?_
          refine at_block ?_
          refine at_then ?_
          refine run_region rfl ?_
          refine ox rfl rfl rfl rfl (ex_move rfl rfl) ?_
          refine ox rfl rfl rfl rfl (ex_add rfl rfl rfl) ?_
          refine ox rfl rfl rfl rfl (ex_assign rfl rfl) ?_
          refine ops_nil ?_
          exact at_again k6392 (ρ1 := [(0, p0), (1, p1), (5, .int .i64 (wrap64 (a6385 + 1)))]) (Nat.lt_succ_self _) ⟨_, ho6378, rfl, HM⟩ (Sub.cons rfl (Sub.cons rfl (Sub.cons rfl Sub.nil)))
      · replace ho6378 := cond_f hb6394 ho6378
        refine run_exit ?_
        refine at_then_exit ?_
        refine at_then_exit ?_
        refine at_block_exit ?_
        exact at_mid (ρ' := []) ⟨(Option.some.inj ho6378), rfl, HM⟩ Sub.nil
    · rintro _ w6400 ⟨rfl, rfl, HM⟩
      replace H := (thn_inr H)
      refine run_seq ?_
      refine run_region rfl ?_
      refine ox rfl rfl rfl rfl (ex_assign rfl rfl) ?_
      refine ops_nil (at_then ?_)
      refine run_ret ?_
      have hR := Option.some.inj H
      subst hR
      exact at_ret1 rfl rfl ⟨_, rfl, rfl, HM⟩

def laws_eqRule.f (k : Nat) (x0 : Rule) (x1 : Rule) : Option Bool := ((laws_eqInt64S.f k x0.fKeys x1.fKeys).bind fun t6421 => (bif !t6421 then some false else (bif (x0.fNeed != x1.fNeed) then some false else (bif (x0.fAfter != x1.fAfter) then some false else some true))))
theorem laws_eqRule.calls {k : Nat} {x0 : Rule} {x1 : Rule} {p0_0 : Value} {p1_0 : Value} {w : World} (hp0_0 : RdS kInt w p0_0 x0.fKeys) (hp1_0 : RdS kInt w p1_0 x1.fKeys) {r : Bool} (H : laws_eqRule.f k x0 x1 = some r) :
    Calls Tryz.prog 97 ([.agg #[p0_0, (.int .i64 x0.fNeed), (.int .i64 x0.fAfter)], .agg #[p1_0, (.int .i64 x1.fNeed), (.int .i64 x1.fAfter)]] : List Value).toArray w (fun e w_ => ∃ v, e = .returned v ∧ v = (.bool r) ∧ Mem w [] w_ []) := by
  have HM := Mem.start w
  refine calls_run (N := 21) Tryz.func97 rfl rfl rfl rfl ?_
  unfold laws_eqRule.f at H
  refine run_seq ?_
  refine run_region rfl ?_
  refine od rfl rfl rfl rfl (does_box (cs := [p0_0, .int .i64 x0.fNeed, .int .i64 x0.fAfter]) rfl rfl rfl HM) ?_
  rintro _ w6416 ⟨b6410, rfl, HM⟩
  refine od rfl rfl rfl rfl (does_box (cs := [p1_0, .int .i64 x1.fNeed, .int .i64 x1.fAfter]) rfl rfl rfl HM) ?_
  rintro _ w6417 ⟨b6413, rfl, HM⟩
  refine ox rfl rfl rfl rfl (ex_assign rfl rfl) ?_
  refine ops_nil (at_then (run_seq ?_))
  refine run_seq ?_
  obtain ⟨t6421, h6422, H⟩ := bind_some H
  refine run_region rfl ?_
  refine ox rfl rfl rfl rfl (ex_fieldAddr (off' := 0) rfl rfl Tryz.underlying68 rfl tsz49 rfl) ?_
  refine ox rfl rfl rfl rfl (ex_load1 rfl rfl Tryz.underlying49 rfl ((HM.box_at 1 rfl) 0 _ rfl)) ?_
  refine ox rfl rfl rfl rfl (ex_fieldAddr (off' := 0) rfl rfl Tryz.underlying68 rfl tsz49 rfl) ?_
  refine ox rfl rfl rfl rfl (ex_load1 rfl rfl Tryz.underlying49 rfl ((HM.box_at 0 rfl) 0 _ rfl)) ?_
  refine od rfl rfl rfl rfl (does_callk rfl callok107 rfl (laws_eqInt64S.calls (x0 := x0.fKeys) (x1 := x1.fKeys) (HM.rd hp0_0) (HM.rd hp1_0) h6422)) ?_
  rintro _ w6423 ⟨rfl, hn⟩
  replace HM : Mem w [] w6423 [box b6413 68 [p1_0, .int .i64 x1.fNeed, .int .i64 x1.fAfter], box b6410 68 [p0_0, .int .i64 x0.fNeed, .int .i64 x0.fAfter]] := HM.call hn
  refine ox rfl rfl rfl rfl (ex_not rfl rfl) ?_
  refine ops_nil (at_then ?_)
  refine run_cond (b := !t6421) rfl (fun hb6424 => ?_) (fun hb6424 => ?_)
  · replace H := cond_t hb6424 H
    refine run_seq ?_
    refine run_region rfl ?_
    refine ox rfl rfl rfl rfl (ex_assign rfl rfl) ?_
    refine ops_nil (at_then ?_)
    refine run_ret ?_
    refine at_then_ret ?_
    replace HM := (HM.front 0 rfl rfl).drop
    replace HM := (HM.front 0 rfl rfl).drop
    have hR := Option.some.inj H
    subst hR
    exact at_ret1 rfl rfl ⟨_, rfl, rfl, HM⟩
  · replace H := cond_f hb6424 H
    refine run_skip ?_
    refine at_then ?_
    refine run_seq ?_
    refine run_seq ?_
    refine run_region rfl ?_
    refine ox rfl rfl rfl rfl (ex_fieldAddr (off' := 1) rfl rfl Tryz.underlying68 rfl tsz2 rfl) ?_
    refine ox rfl rfl rfl rfl (ex_load1 rfl rfl Tryz.underlying2 rfl ((HM.box_at 1 rfl) 1 _ rfl)) ?_
    refine ox rfl rfl rfl rfl (ex_fieldAddr (off' := 1) rfl rfl Tryz.underlying68 rfl tsz2 rfl) ?_
    refine ox rfl rfl rfl rfl (ex_load1 rfl rfl Tryz.underlying2 rfl ((HM.box_at 0 rfl) 1 _ rfl)) ?_
    refine ox rfl rfl rfl rfl (ex_neq rfl rfl rfl) ?_
    refine ops_nil (at_then ?_)
    refine run_cond (b := (x0.fNeed != x1.fNeed)) rfl (fun hb6426 => ?_) (fun hb6426 => ?_)
    · replace H := cond_t hb6426 H
      refine run_seq ?_
      refine run_region rfl ?_
      refine ox rfl rfl rfl rfl (ex_assign rfl rfl) ?_
      refine ops_nil (at_then ?_)
      refine run_ret ?_
      refine at_then_ret ?_
      replace HM := (HM.front 0 rfl rfl).drop
      replace HM := (HM.front 0 rfl rfl).drop
      have hR := Option.some.inj H
      subst hR
      exact at_ret1 rfl rfl ⟨_, rfl, rfl, HM⟩
    · replace H := cond_f hb6426 H
      refine run_skip ?_
      refine at_then ?_
      refine run_seq ?_
      refine run_seq ?_
      refine run_region rfl ?_
      refine ox rfl rfl rfl rfl (ex_fieldAddr (off' := 2) rfl rfl Tryz.underlying68 rfl tsz2 rfl) ?_
      refine ox rfl rfl rfl rfl (ex_load1 rfl rfl Tryz.underlying2 rfl ((HM.box_at 1 rfl) 2 _ rfl)) ?_
      refine ox rfl rfl rfl rfl (ex_fieldAddr (off' := 2) rfl rfl Tryz.underlying68 rfl tsz2 rfl) ?_
      refine ox rfl rfl rfl rfl (ex_load1 rfl rfl Tryz.underlying2 rfl ((HM.box_at 0 rfl) 2 _ rfl)) ?_
      refine ox rfl rfl rfl rfl (ex_neq rfl rfl rfl) ?_
      refine ops_nil (at_then ?_)
      refine run_cond (b := (x0.fAfter != x1.fAfter)) rfl (fun hb6427 => ?_) (fun hb6427 => ?_)
      · replace H := cond_t hb6427 H
        refine run_seq ?_
        refine run_region rfl ?_
        refine ox rfl rfl rfl rfl (ex_assign rfl rfl) ?_
        refine ops_nil (at_then ?_)
        refine run_ret ?_
        refine at_then_ret ?_
        replace HM := (HM.front 0 rfl rfl).drop
        replace HM := (HM.front 0 rfl rfl).drop
        have hR := Option.some.inj H
        subst hR
        exact at_ret1 rfl rfl ⟨_, rfl, rfl, HM⟩
      · replace H := cond_f hb6427 H
        refine run_skip ?_
        refine at_then ?_
        refine run_seq ?_
        refine run_region rfl ?_
        refine ox rfl rfl rfl rfl (ex_assign rfl rfl) ?_
        refine ops_nil (at_then ?_)
        refine run_ret ?_
        replace HM := (HM.front 0 rfl rfl).drop
        replace HM := (HM.front 0 rfl rfl).drop
        have hR := Option.some.inj H
        subst hR
        exact at_ret1 rfl rfl ⟨_, rfl, rfl, HM⟩

def laws_eqOut.f (k : Nat) (x0 : Out) (x1 : Out) : Option Bool := (bif (x0.fValue != x1.fValue) then some false else ((laws_eqRule.f k x0.fRule x1.fRule).bind fun t6441 => (bif !t6441 then some false else some true)))
theorem laws_eqOut.calls {k : Nat} {x0 : Out} {x1 : Out} {p0_0 : Value} {p1_0 : Value} {w : World} (hp0_0 : RdS kInt w p0_0 x0.fRule.fKeys) (hp1_0 : RdS kInt w p1_0 x1.fRule.fKeys) {r : Bool} (H : laws_eqOut.f k x0 x1 = some r) :
    Calls Tryz.prog 73 ([.agg #[(.int .i64 x0.fValue), p0_0, (.int .i64 x0.fRule.fNeed), (.int .i64 x0.fRule.fAfter)], .agg #[(.int .i64 x1.fValue), p1_0, (.int .i64 x1.fRule.fNeed), (.int .i64 x1.fRule.fAfter)]] : List Value).toArray w (fun e w_ => ∃ v, e = .returned v ∧ v = (.bool r) ∧ Mem w [] w_ []) := by
  have HM := Mem.start w
  refine calls_run (N := 16) Tryz.func73 rfl rfl rfl rfl ?_
  unfold laws_eqOut.f at H
  refine run_seq ?_
  refine run_region rfl ?_
  refine od rfl rfl rfl rfl (does_box (cs := [.int .i64 x0.fValue, p0_0, .int .i64 x0.fRule.fNeed, .int .i64 x0.fRule.fAfter]) rfl rfl rfl HM) ?_
  rintro _ w6437 ⟨b6431, rfl, HM⟩
  refine od rfl rfl rfl rfl (does_box (cs := [.int .i64 x1.fValue, p1_0, .int .i64 x1.fRule.fNeed, .int .i64 x1.fRule.fAfter]) rfl rfl rfl HM) ?_
  rintro _ w6438 ⟨b6434, rfl, HM⟩
  refine ox rfl rfl rfl rfl (ex_assign rfl rfl) ?_
  refine ops_nil (at_then (run_seq ?_))
  refine run_seq ?_
  refine run_region rfl ?_
  refine ox rfl rfl rfl rfl (ex_fieldAddr (off' := 0) rfl rfl Tryz.underlying70 rfl tsz2 rfl) ?_
  refine ox rfl rfl rfl rfl (ex_load1 rfl rfl Tryz.underlying2 rfl ((HM.box_at 1 rfl) 0 _ rfl)) ?_
  refine ox rfl rfl rfl rfl (ex_fieldAddr (off' := 0) rfl rfl Tryz.underlying70 rfl tsz2 rfl) ?_
  refine ox rfl rfl rfl rfl (ex_load1 rfl rfl Tryz.underlying2 rfl ((HM.box_at 0 rfl) 0 _ rfl)) ?_
  refine ox rfl rfl rfl rfl (ex_neq rfl rfl rfl) ?_
  refine ops_nil (at_then ?_)
  refine run_cond (b := (x0.fValue != x1.fValue)) rfl (fun hb6440 => ?_) (fun hb6440 => ?_)
  · replace H := cond_t hb6440 H
    refine run_seq ?_
    refine run_region rfl ?_
    refine ox rfl rfl rfl rfl (ex_assign rfl rfl) ?_
    refine ops_nil (at_then ?_)
    refine run_ret ?_
    refine at_then_ret ?_
    replace HM := (HM.front 0 rfl rfl).drop
    replace HM := (HM.front 0 rfl rfl).drop
    have hR := Option.some.inj H
    subst hR
    exact at_ret1 rfl rfl ⟨_, rfl, rfl, HM⟩
  · replace H := cond_f hb6440 H
    refine run_skip ?_
    refine at_then ?_
    refine run_seq ?_
    refine run_seq ?_
    obtain ⟨t6441, h6442, H⟩ := bind_some H
    refine run_region rfl ?_
    refine ox rfl rfl rfl rfl (ex_fieldAddr (off' := 1) rfl rfl Tryz.underlying70 rfl tsz68 rfl) ?_
    refine ox rfl rfl rfl rfl (ex_loadN (cs := [p0_0, (.int .i64 x0.fRule.fNeed), (.int .i64 x0.fRule.fAfter)]) rfl rfl Tryz.underlying68 rfl tsz68 rfl ((HM.box_at 1 rfl).sub 1 3 rfl)) ?_
    refine ox rfl rfl rfl rfl (ex_fieldAddr (off' := 1) rfl rfl Tryz.underlying70 rfl tsz68 rfl) ?_
    refine ox rfl rfl rfl rfl (ex_loadN (cs := [p1_0, (.int .i64 x1.fRule.fNeed), (.int .i64 x1.fRule.fAfter)]) rfl rfl Tryz.underlying68 rfl tsz68 rfl ((HM.box_at 0 rfl).sub 1 3 rfl)) ?_
    refine od rfl rfl rfl rfl (does_callk rfl callok97 rfl (laws_eqRule.calls (x0 := x0.fRule) (x1 := x1.fRule) (HM.rd hp0_0) (HM.rd hp1_0) h6442)) ?_
    rintro _ w6443 ⟨rfl, hn⟩
    replace HM : Mem w [] w6443 [box b6434 70 [.int .i64 x1.fValue, p1_0, .int .i64 x1.fRule.fNeed, .int .i64 x1.fRule.fAfter], box b6431 70 [.int .i64 x0.fValue, p0_0, .int .i64 x0.fRule.fNeed, .int .i64 x0.fRule.fAfter]] := HM.call hn
    refine ox rfl rfl rfl rfl (ex_not rfl rfl) ?_
    refine ops_nil (at_then ?_)
    refine run_cond (b := !t6441) rfl (fun hb6444 => ?_) (fun hb6444 => ?_)
    · replace H := cond_t hb6444 H
      refine run_seq ?_
      refine run_region rfl ?_
      refine ox rfl rfl rfl rfl (ex_assign rfl rfl) ?_
      refine ops_nil (at_then ?_)
      refine run_ret ?_
      refine at_then_ret ?_
      replace HM := (HM.front 0 rfl rfl).drop
      replace HM := (HM.front 0 rfl rfl).drop
      have hR := Option.some.inj H
      subst hR
      exact at_ret1 rfl rfl ⟨_, rfl, rfl, HM⟩
    · replace H := cond_f hb6444 H
      refine run_skip ?_
      refine at_then ?_
      refine run_seq ?_
      refine run_region rfl ?_
      refine ox rfl rfl rfl rfl (ex_assign rfl rfl) ?_
      refine ops_nil (at_then ?_)
      refine run_ret ?_
      replace HM := (HM.front 0 rfl rfl).drop
      replace HM := (HM.front 0 rfl rfl).drop
      have hR := Option.some.inj H
      subst hR
      exact at_ret1 rfl rfl ⟨_, rfl, rfl, HM⟩

def laws_eqCoin.f (k : Nat) (x0 : Coin) (x1 : Coin) : Option Bool := ((laws_eqRef.f k x0.fRef x1.fRef).bind fun t6465 => (bif !t6465 then some false else ((laws_eqOut.f k x0.fOut x1.fOut).bind fun t6472 => (bif !t6472 then some false else (bif (x0.fHeight != x1.fHeight) then some false else (bif (x0.fMined != x1.fMined) then some false else some true))))))
theorem laws_eqCoin.calls {k : Nat} {x0 : Coin} {x1 : Coin} {p0_0 : Value} {p1_0 : Value} {w : World} (hp0_0 : RdS kInt w p0_0 x0.fOut.fRule.fKeys) (hp1_0 : RdS kInt w p1_0 x1.fOut.fRule.fKeys) {r : Bool} (H : laws_eqCoin.f k x0 x1 = some r) :
    Calls Tryz.prog 33 ([.agg #[(.int .i64 x0.fRef.fTx), (.int .i64 x0.fRef.fAt), (.int .i64 x0.fOut.fValue), p0_0, (.int .i64 x0.fOut.fRule.fNeed), (.int .i64 x0.fOut.fRule.fAfter), (.int .i64 x0.fHeight), (.bool x0.fMined)], .agg #[(.int .i64 x1.fRef.fTx), (.int .i64 x1.fRef.fAt), (.int .i64 x1.fOut.fValue), p1_0, (.int .i64 x1.fOut.fRule.fNeed), (.int .i64 x1.fOut.fRule.fAfter), (.int .i64 x1.fHeight), (.bool x1.fMined)]] : List Value).toArray w (fun e w_ => ∃ v, e = .returned v ∧ v = (.bool r) ∧ Mem w [] w_ []) := by
  have HM := Mem.start w
  refine calls_run (N := 27) Tryz.func33 rfl rfl rfl rfl ?_
  unfold laws_eqCoin.f at H
  refine run_seq ?_
  refine run_region rfl ?_
  refine od rfl rfl rfl rfl (does_box (cs := [.int .i64 x0.fRef.fTx, .int .i64 x0.fRef.fAt, .int .i64 x0.fOut.fValue, p0_0, .int .i64 x0.fOut.fRule.fNeed, .int .i64 x0.fOut.fRule.fAfter, .int .i64 x0.fHeight, .bool x0.fMined]) rfl rfl rfl HM) ?_
  rintro _ w6460 ⟨b6454, rfl, HM⟩
  refine od rfl rfl rfl rfl (does_box (cs := [.int .i64 x1.fRef.fTx, .int .i64 x1.fRef.fAt, .int .i64 x1.fOut.fValue, p1_0, .int .i64 x1.fOut.fRule.fNeed, .int .i64 x1.fOut.fRule.fAfter, .int .i64 x1.fHeight, .bool x1.fMined]) rfl rfl rfl HM) ?_
  rintro _ w6461 ⟨b6457, rfl, HM⟩
  refine ox rfl rfl rfl rfl (ex_assign rfl rfl) ?_
  refine ops_nil (at_then (run_seq ?_))
  refine run_seq ?_
  obtain ⟨t6465, h6466, H⟩ := bind_some H
  refine run_region rfl ?_
  refine ox rfl rfl rfl rfl (ex_fieldAddr (off' := 0) rfl rfl Tryz.underlying72 rfl tsz66 rfl) ?_
  refine ox rfl rfl rfl rfl (ex_loadN (cs := [(.int .i64 x0.fRef.fTx), (.int .i64 x0.fRef.fAt)]) rfl rfl Tryz.underlying66 rfl tsz66 rfl ((HM.box_at 1 rfl).sub 0 2 rfl)) ?_
  refine ox rfl rfl rfl rfl (ex_fieldAddr (off' := 0) rfl rfl Tryz.underlying72 rfl tsz66 rfl) ?_
  refine ox rfl rfl rfl rfl (ex_loadN (cs := [(.int .i64 x1.fRef.fTx), (.int .i64 x1.fRef.fAt)]) rfl rfl Tryz.underlying66 rfl tsz66 rfl ((HM.box_at 0 rfl).sub 0 2 rfl)) ?_
  refine od rfl rfl rfl rfl (does_callk rfl callok72 rfl (laws_eqRef.calls (x0 := x0.fRef) (x1 := x1.fRef) h6466)) ?_
  rintro _ w6467 ⟨rfl, hn⟩
  replace HM : Mem w [] w6467 [box b6457 72 [.int .i64 x1.fRef.fTx, .int .i64 x1.fRef.fAt, .int .i64 x1.fOut.fValue, p1_0, .int .i64 x1.fOut.fRule.fNeed, .int .i64 x1.fOut.fRule.fAfter, .int .i64 x1.fHeight, .bool x1.fMined], box b6454 72 [.int .i64 x0.fRef.fTx, .int .i64 x0.fRef.fAt, .int .i64 x0.fOut.fValue, p0_0, .int .i64 x0.fOut.fRule.fNeed, .int .i64 x0.fOut.fRule.fAfter, .int .i64 x0.fHeight, .bool x0.fMined]] := HM.call hn
  refine ox rfl rfl rfl rfl (ex_not rfl rfl) ?_
  refine ops_nil (at_then ?_)
  refine run_cond (b := !t6465) rfl (fun hb6468 => ?_) (fun hb6468 => ?_)
  · replace H := cond_t hb6468 H
    refine run_seq ?_
    refine run_region rfl ?_
    refine ox rfl rfl rfl rfl (ex_assign rfl rfl) ?_
    refine ops_nil (at_then ?_)
    refine run_ret ?_
    refine at_then_ret ?_
    replace HM := (HM.front 0 rfl rfl).drop
    replace HM := (HM.front 0 rfl rfl).drop
    have hR := Option.some.inj H
    subst hR
    exact at_ret1 rfl rfl ⟨_, rfl, rfl, HM⟩
  · replace H := cond_f hb6468 H
    refine run_skip ?_
    refine at_then ?_
    refine run_seq ?_
    refine run_seq ?_
    obtain ⟨t6472, h6473, H⟩ := bind_some H
    refine run_region rfl ?_
    refine ox rfl rfl rfl rfl (ex_fieldAddr (off' := 2) rfl rfl Tryz.underlying72 rfl tsz70 rfl) ?_
    refine ox rfl rfl rfl rfl (ex_loadN (cs := [(.int .i64 x0.fOut.fValue), p0_0, (.int .i64 x0.fOut.fRule.fNeed), (.int .i64 x0.fOut.fRule.fAfter)]) rfl rfl Tryz.underlying70 rfl tsz70 rfl ((HM.box_at 1 rfl).sub 2 4 rfl)) ?_
    refine ox rfl rfl rfl rfl (ex_fieldAddr (off' := 2) rfl rfl Tryz.underlying72 rfl tsz70 rfl) ?_
    refine ox rfl rfl rfl rfl (ex_loadN (cs := [(.int .i64 x1.fOut.fValue), p1_0, (.int .i64 x1.fOut.fRule.fNeed), (.int .i64 x1.fOut.fRule.fAfter)]) rfl rfl Tryz.underlying70 rfl tsz70 rfl ((HM.box_at 0 rfl).sub 2 4 rfl)) ?_
    refine od rfl rfl rfl rfl (does_callk rfl callok73 rfl (laws_eqOut.calls (x0 := x0.fOut) (x1 := x1.fOut) (HM.rd hp0_0) (HM.rd hp1_0) h6473)) ?_
    rintro _ w6474 ⟨rfl, hn⟩
    replace HM : Mem w [] w6474 [box b6457 72 [.int .i64 x1.fRef.fTx, .int .i64 x1.fRef.fAt, .int .i64 x1.fOut.fValue, p1_0, .int .i64 x1.fOut.fRule.fNeed, .int .i64 x1.fOut.fRule.fAfter, .int .i64 x1.fHeight, .bool x1.fMined], box b6454 72 [.int .i64 x0.fRef.fTx, .int .i64 x0.fRef.fAt, .int .i64 x0.fOut.fValue, p0_0, .int .i64 x0.fOut.fRule.fNeed, .int .i64 x0.fOut.fRule.fAfter, .int .i64 x0.fHeight, .bool x0.fMined]] := HM.call hn
    refine ox rfl rfl rfl rfl (ex_not rfl rfl) ?_
    refine ops_nil (at_then ?_)
    refine run_cond (b := !t6472) rfl (fun hb6475 => ?_) (fun hb6475 => ?_)
    · replace H := cond_t hb6475 H
      refine run_seq ?_
      refine run_region rfl ?_
      refine ox rfl rfl rfl rfl (ex_assign rfl rfl) ?_
      refine ops_nil (at_then ?_)
      refine run_ret ?_
      refine at_then_ret ?_
      replace HM := (HM.front 0 rfl rfl).drop
      replace HM := (HM.front 0 rfl rfl).drop
      have hR := Option.some.inj H
      subst hR
      exact at_ret1 rfl rfl ⟨_, rfl, rfl, HM⟩
    · replace H := cond_f hb6475 H
      refine run_skip ?_
      refine at_then ?_
      refine run_seq ?_
      refine run_seq ?_
      refine run_region rfl ?_
      refine ox rfl rfl rfl rfl (ex_fieldAddr (off' := 6) rfl rfl Tryz.underlying72 rfl tsz2 rfl) ?_
      refine ox rfl rfl rfl rfl (ex_load1 rfl rfl Tryz.underlying2 rfl ((HM.box_at 1 rfl) 6 _ rfl)) ?_
      refine ox rfl rfl rfl rfl (ex_fieldAddr (off' := 6) rfl rfl Tryz.underlying72 rfl tsz2 rfl) ?_
      refine ox rfl rfl rfl rfl (ex_load1 rfl rfl Tryz.underlying2 rfl ((HM.box_at 0 rfl) 6 _ rfl)) ?_
      refine ox rfl rfl rfl rfl (ex_neq rfl rfl rfl) ?_
      refine ops_nil (at_then ?_)
      refine run_cond (b := (x0.fHeight != x1.fHeight)) rfl (fun hb6477 => ?_) (fun hb6477 => ?_)
      · replace H := cond_t hb6477 H
        refine run_seq ?_
        refine run_region rfl ?_
        refine ox rfl rfl rfl rfl (ex_assign rfl rfl) ?_
        refine ops_nil (at_then ?_)
        refine run_ret ?_
        refine at_then_ret ?_
        replace HM := (HM.front 0 rfl rfl).drop
        replace HM := (HM.front 0 rfl rfl).drop
        have hR := Option.some.inj H
        subst hR
        exact at_ret1 rfl rfl ⟨_, rfl, rfl, HM⟩
      · replace H := cond_f hb6477 H
        refine run_skip ?_
        refine at_then ?_
        refine run_seq ?_
        refine run_seq ?_
        refine run_region rfl ?_
        refine ox rfl rfl rfl rfl (ex_fieldAddr (off' := 7) rfl rfl Tryz.underlying72 rfl tsz4 rfl) ?_
        refine ox rfl rfl rfl rfl (ex_load1 rfl rfl Tryz.underlying4 rfl ((HM.box_at 1 rfl) 7 _ rfl)) ?_
        refine ox rfl rfl rfl rfl (ex_fieldAddr (off' := 7) rfl rfl Tryz.underlying72 rfl tsz4 rfl) ?_
        refine ox rfl rfl rfl rfl (ex_load1 rfl rfl Tryz.underlying4 rfl ((HM.box_at 0 rfl) 7 _ rfl)) ?_
        refine ox rfl rfl rfl rfl (ex_bneq rfl rfl rfl Tryz.underlying4) ?_
        refine ops_nil (at_then ?_)
        refine run_cond (b := (x0.fMined != x1.fMined)) rfl (fun hb6478 => ?_) (fun hb6478 => ?_)
        · replace H := cond_t hb6478 H
          refine run_seq ?_
          refine run_region rfl ?_
          refine ox rfl rfl rfl rfl (ex_assign rfl rfl) ?_
          refine ops_nil (at_then ?_)
          refine run_ret ?_
          refine at_then_ret ?_
          replace HM := (HM.front 0 rfl rfl).drop
          replace HM := (HM.front 0 rfl rfl).drop
          have hR := Option.some.inj H
          subst hR
          exact at_ret1 rfl rfl ⟨_, rfl, rfl, HM⟩
        · replace H := cond_f hb6478 H
          refine run_skip ?_
          refine at_then ?_
          refine run_seq ?_
          refine run_region rfl ?_
          refine ox rfl rfl rfl rfl (ex_assign rfl rfl) ?_
          refine ops_nil (at_then ?_)
          refine run_ret ?_
          replace HM := (HM.front 0 rfl rfl).drop
          replace HM := (HM.front 0 rfl rfl).drop
          have hR := Option.some.inj H
          subst hR
          exact at_ret1 rfl rfl ⟨_, rfl, rfl, HM⟩

def laws_eqCoinS.l0 (x0 : List Coin) (x1 : List Coin) : Nat → Int → Option (Bool ⊕ Unit)
  | 0, _ => none
  | k + 1, a6562 => (bif (decide (a6562 < (x0.length : Int))) then (chk (idxOk a6562 x0.length) (chk (idxOk a6562 x1.length) ((laws_eqCoin.f k (gt x0 a6562) (gt x1 a6562)).bind fun t6586 => (bif !t6586 then some (.inl false) else laws_eqCoinS.l0 x0 x1 k (wrap64 (a6562 + 1)))))) else some (.inr ()))
theorem laws_eqCoinS.l0_z (x0 : List Coin) (x1 : List Coin) (a6562 : Int) : laws_eqCoinS.l0 x0 x1 0 a6562 = none := rfl
theorem laws_eqCoinS.l0_s (x0 : List Coin) (x1 : List Coin) (k : Nat) (a6562 : Int) : laws_eqCoinS.l0 x0 x1 (k + 1) a6562 = (bif (decide (a6562 < (x0.length : Int))) then (chk (idxOk a6562 x0.length) (chk (idxOk a6562 x1.length) ((laws_eqCoin.f k (gt x0 a6562) (gt x1 a6562)).bind fun t6586 => (bif !t6586 then some (.inl false) else laws_eqCoinS.l0 x0 x1 k (wrap64 (a6562 + 1)))))) else some (.inr ())) := rfl
def laws_eqCoinS.f (k : Nat) (x0 : List Coin) (x1 : List Coin) : Option Bool := (bif ((x0.length : Int) != (x1.length : Int)) then some false else ((laws_eqCoinS.l0 x0 x1 k 0).bind fun o6548 => thn o6548 (fun r => some r) (fun _ => some true)))
theorem laws_eqCoinS.calls {k : Nat} {x0 : List Coin} {x1 : List Coin} {p0 : Value} {p1 : Value} {w : World} (hp0 : RdS kCoin w p0 x0) (hp1 : RdS kCoin w p1 x1) {r : Bool} (H : laws_eqCoinS.f k x0 x1 = some r) :
    Calls Tryz.prog 11 ([p0, p1] : List Value).toArray w (fun e w_ => ∃ v, e = .returned v ∧ v = (.bool r) ∧ Mem w [] w_ []) := by
  have HM := Mem.start w
  refine calls_run (N := 27) Tryz.func11 rfl rfl rfl rfl ?_
  unfold laws_eqCoinS.f at H
  refine run_seq ?_
  refine run_region rfl ?_
  refine ox rfl rfl rfl rfl (ex_assign rfl rfl) ?_
  refine ops_nil (at_then (run_seq ?_))
  refine run_seq ?_
  refine run_region rfl ?_
  refine ox rfl rfl rfl rfl (ex_move rfl rfl) ?_
  refine ox rfl rfl rfl rfl (ex_len (d := kCoin) (xs := x0) rfl rfl Tryz.underlying29 hp0) ?_
  refine ox rfl rfl rfl rfl (ex_move rfl rfl) ?_
  refine ox rfl rfl rfl rfl (ex_len (d := kCoin) (xs := x1) rfl rfl Tryz.underlying29 hp1) ?_
  refine ox rfl rfl rfl rfl (ex_neq rfl rfl rfl) ?_
  refine ops_nil (at_then ?_)
  refine run_cond (b := ((x0.length : Int) != (x1.length : Int))) rfl (fun hb6510 => ?_) (fun hb6510 => ?_)
  · replace H := cond_t hb6510 H
    refine run_seq ?_
    refine run_region rfl ?_
    refine ox rfl rfl rfl rfl (ex_assign rfl rfl) ?_
    refine ops_nil (at_then ?_)
    refine run_ret ?_
    refine at_then_ret ?_
    have hR := Option.some.inj H
    subst hR
    exact at_ret1 rfl rfl ⟨_, rfl, rfl, HM⟩
  · replace H := cond_f hb6510 H
    refine run_skip ?_
    refine at_then ?_
    obtain ⟨o6548, ho6549, H⟩ := bind_some H
    refine run_mid (fun ρ_ w_ => Sum.inr () = o6548 ∧ ρ_ = [] ∧ Mem w [] w_ []) ?_ ?_
    · skip
      refine run_seq ?_
      refine run_region rfl ?_
      refine ox rfl rfl rfl rfl (ex_assign rfl rfl) ?_
      refine ops_nil (at_then ?_)
      refine run_block ?_
      refine run_loop (fun k_ ρ_ w_ => ∃ a6562 : Int, laws_eqCoinS.l0 x0 x1 k_ a6562 = some o6548 ∧ ρ_ = [(0, p0), (1, p1), (5, .int .i64 a6562)] ∧ Mem w [] w_ []) k (ρ1 := [(0, p0), (1, p1), (5, .int .i64 0)]) ⟨_, ho6549, rfl, HM⟩ (Sub.cons rfl (Sub.cons rfl (Sub.cons rfl Sub.nil))) ?_
      clear HM ho6549
      rintro k6575 _ w6576 ⟨a6562, ho6549, rfl, HM⟩
      obtain _ | k6575 := k6575
      · exact nomatch ((laws_eqCoinS.l0_z x0 x1 a6562).symm.trans ho6549)
      replace ho6549 := (laws_eqCoinS.l0_s x0 x1 k6575 a6562).symm.trans ho6549
      refine run_seq ?_
      refine run_seq ?_
      refine run_region rfl ?_
      refine ox rfl rfl rfl rfl (ex_move rfl rfl) ?_
      refine ox rfl rfl rfl rfl (ex_move rfl rfl) ?_
      refine ox rfl rfl rfl rfl (ex_len (d := kCoin) (xs := x0) rfl rfl Tryz.underlying29 hp0) ?_
      refine ox rfl rfl rfl rfl (ex_lss rfl rfl rfl) ?_
      refine ops_nil (at_then ?_)
      refine run_cond (b := (decide (a6562 < (x0.length : Int)))) rfl (fun hb6577 => ?_) (fun hb6577 => ?_)
      · replace ho6549 := cond_t hb6577 ho6549
        refine run_skip ?_
        refine at_then ?_
        refine run_seq ?_
        refine run_block ?_
        refine run_seq ?_
        obtain ⟨e6578, ho6549⟩ := chk_some ho6549
        obtain ⟨e6582, ho6549⟩ := chk_some ho6549
        obtain ⟨t6586, h6587, ho6549⟩ := bind_some ho6549
        refine run_drawf (fun w_ => Mem w [] w_ []) [(0, true), (1, true), (2, true), (3, true), (4, true), (5, true), (6, true), (7, true), (8, false), (9, true)] mixed rfl rfl (by kernel_rfl) ?_
        replace HM := HM.grow (fr_drew _)
        have hS := Mem.suf (M := []) HM
        refine dp rfl rfl rfl rfl (ex_move rfl rfl) hS ?_
        refine dp rfl rfl rfl rfl (ex_move rfl rfl) hS ?_
        obtain ⟨kv6580, hc6579, hk6581⟩ : ∃ u, CellsAt _ (sb p0) (so p0 + (a6562).toNat * 8) [(.int .i64 ((gt x0 a6562).fRef.fTx)), (.int .i64 ((gt x0 a6562).fRef.fAt)), (.int .i64 ((gt x0 a6562).fOut.fValue)), u, (.int .i64 ((gt x0 a6562).fOut.fRule.fNeed)), (.int .i64 ((gt x0 a6562).fOut.fRule.fAfter)), (.int .i64 ((gt x0 a6562).fHeight)), (.bool ((gt x0 a6562).fMined))] ∧ RdS kInt _ u ((gt x0 a6562).fOut.fRule.fKeys) := rd_with1 hp0 e6578
        refine dp rfl rfl rfl rfl (ex_indexAddr (d := kCoin) rfl rfl rfl Tryz.underlying29 tsz72 hp0 (idx_lo e6578) (idx_hi e6578)) hS ?_
        refine drwp_take rfl (guard_none rfl) rfl rfl (fun w_ hS_ => (ex_loadN (cs := [(.int .i64 ((gt x0 a6562).fRef.fTx)), (.int .i64 ((gt x0 a6562).fRef.fAt)), (.int .i64 ((gt x0 a6562).fOut.fValue)), kv6580, (.int .i64 ((gt x0 a6562).fOut.fRule.fNeed)), (.int .i64 ((gt x0 a6562).fOut.fRule.fAfter)), (.int .i64 ((gt x0 a6562).fHeight)), (.bool ((gt x0 a6562).fMined))]) rfl rfl Tryz.underlying72 rfl tsz72 rfl ((hS_.at_ hc6579).sub 0 8 rfl))) hS ?_
        refine dp rfl rfl rfl rfl (ex_move rfl rfl) hS ?_
        refine dp rfl rfl rfl rfl (ex_move rfl rfl) hS ?_
        obtain ⟨kv6584, hc6583, hk6585⟩ : ∃ u, CellsAt _ (sb p1) (so p1 + (a6562).toNat * 8) [(.int .i64 ((gt x1 a6562).fRef.fTx)), (.int .i64 ((gt x1 a6562).fRef.fAt)), (.int .i64 ((gt x1 a6562).fOut.fValue)), u, (.int .i64 ((gt x1 a6562).fOut.fRule.fNeed)), (.int .i64 ((gt x1 a6562).fOut.fRule.fAfter)), (.int .i64 ((gt x1 a6562).fHeight)), (.bool ((gt x1 a6562).fMined))] ∧ RdS kInt _ u ((gt x1 a6562).fOut.fRule.fKeys) := rd_with1 hp1 e6582
        refine dp rfl rfl rfl rfl (ex_indexAddr (d := kCoin) rfl rfl rfl Tryz.underlying29 tsz72 hp1 (idx_lo e6582) (idx_hi e6582)) hS ?_
        refine drwp_take rfl (guard_none rfl) rfl rfl (fun w_ hS_ => (ex_loadN (cs := [(.int .i64 ((gt x1 a6562).fRef.fTx)), (.int .i64 ((gt x1 a6562).fRef.fAt)), (.int .i64 ((gt x1 a6562).fOut.fValue)), kv6584, (.int .i64 ((gt x1 a6562).fOut.fRule.fNeed)), (.int .i64 ((gt x1 a6562).fOut.fRule.fAfter)), (.int .i64 ((gt x1 a6562).fHeight)), (.bool ((gt x1 a6562).fMined))]) rfl rfl Tryz.underlying72 rfl tsz72 rfl ((hS_.at_ hc6583).sub 0 8 rfl))) hS ?_
        refine drwp_one rfl (guard_none rfl) rfl rfl (does_callk rfl callok33 rfl (laws_eqCoin.calls (x0 := (gt x0 a6562)) (x1 := (gt x1 a6562)) (HM.rd hk6581) (HM.rd hk6585) h6587)) ?_
        rintro _ w6588 ⟨rfl, hn⟩
        replace HM : Mem w [] w6588 [] := HM.call hn
        have hS := Mem.suf (M := []) HM
        refine ⟨hS, ?_⟩
        refine dp rfl rfl rfl rfl (ex_not rfl rfl) hS ?_
        refine drwp_done ?_
        refine at_then ?_
        refine run_cond (b := !t6586) rfl (fun hb6589 => ?_) (fun hb6589 => ?_)
        · replace ho6549 := cond_t hb6589 ho6549
          refine run_seq ?_
          refine run_region rfl ?_
          refine ox rfl rfl rfl rfl (ex_assign rfl rfl) ?_
          refine ops_nil (at_then ?_)
          refine run_ret ?_
          refine at_block_ret ?_
          refine at_then_ret ?_
          refine at_then_ret ?_
          refine at_block_ret ?_
          refine at_then_ret ?_
          have hR := Option.some.inj ho6549
          subst hR
          have hT := thn_inl H
          have hR := Option.some.inj hT
          subst hR
          exact at_ret1 rfl rfl ⟨_, rfl, rfl, HM⟩
        · replace ho6549 := cond_f hb6589 ho6549
          refine run_skip ?_
          refine at_block ?_
          refine at_then ?_
          refine run_region rfl ?_
          refine ox rfl rfl rfl rfl (ex_move rfl rfl) ?_
          refine ox rfl rfl rfl rfl (ex_add rfl rfl rfl) ?_
          refine ox rfl rfl rfl rfl (ex_assign rfl rfl) ?_
          refine ops_nil ?_
          exact at_again k6575 (ρ1 := [(0, p0), (1, p1), (5, .int .i64 (wrap64 (a6562 + 1)))]) (Nat.lt_succ_self _) ⟨_, ho6549, rfl, HM⟩ (Sub.cons rfl (Sub.cons rfl (Sub.cons rfl Sub.nil)))
      · replace ho6549 := cond_f hb6577 ho6549
        refine run_exit ?_
        refine at_then_exit ?_
        refine at_then_exit ?_
        refine at_block_exit ?_
        exact at_mid (ρ' := []) ⟨(Option.some.inj ho6549), rfl, HM⟩ Sub.nil
    · rintro _ w6590 ⟨rfl, rfl, HM⟩
      replace H := (thn_inr H)
      refine run_seq ?_
      refine run_region rfl ?_
      refine ox rfl rfl rfl rfl (ex_assign rfl rfl) ?_
      refine ops_nil (at_then ?_)
      refine run_ret ?_
      have hR := Option.some.inj H
      subst hR
      exact at_ret1 rfl rfl ⟨_, rfl, rfl, HM⟩

def laws_eqCoinsResult.f (k : Nat) (x0 : CoinsResult) (x1 : CoinsResult) : Option Bool := (bif (x0.fCode != x1.fCode) then some false else ((laws_eqCoinS.f k x0.fCoins x1.fCoins).bind fun t6604 => (bif !t6604 then some false else some true)))
theorem laws_eqCoinsResult.calls {k : Nat} {x0 : CoinsResult} {x1 : CoinsResult} {p0_0 : Value} {p1_0 : Value} {w : World} (hp0_0 : RdS kCoin w p0_0 x0.fCoins) (hp1_0 : RdS kCoin w p1_0 x1.fCoins) {r : Bool} (H : laws_eqCoinsResult.f k x0 x1 = some r) :
    Calls Tryz.prog 10 ([.agg #[(.int .i64 x0.fCode), p0_0], .agg #[(.int .i64 x1.fCode), p1_0]] : List Value).toArray w (fun e w_ => ∃ v, e = .returned v ∧ v = (.bool r) ∧ Mem w [] w_ []) := by
  have HM := Mem.start w
  refine calls_run (N := 16) Tryz.func10 rfl rfl rfl rfl ?_
  unfold laws_eqCoinsResult.f at H
  refine run_seq ?_
  refine run_region rfl ?_
  refine od rfl rfl rfl rfl (does_box (cs := [.int .i64 x0.fCode, p0_0]) rfl rfl rfl HM) ?_
  rintro _ w6600 ⟨b6594, rfl, HM⟩
  refine od rfl rfl rfl rfl (does_box (cs := [.int .i64 x1.fCode, p1_0]) rfl rfl rfl HM) ?_
  rintro _ w6601 ⟨b6597, rfl, HM⟩
  refine ox rfl rfl rfl rfl (ex_assign rfl rfl) ?_
  refine ops_nil (at_then (run_seq ?_))
  refine run_seq ?_
  refine run_region rfl ?_
  refine ox rfl rfl rfl rfl (ex_fieldAddr (off' := 0) rfl rfl Tryz.underlying31 rfl tsz2 rfl) ?_
  refine ox rfl rfl rfl rfl (ex_load1 rfl rfl Tryz.underlying2 rfl ((HM.box_at 1 rfl) 0 _ rfl)) ?_
  refine ox rfl rfl rfl rfl (ex_fieldAddr (off' := 0) rfl rfl Tryz.underlying31 rfl tsz2 rfl) ?_
  refine ox rfl rfl rfl rfl (ex_load1 rfl rfl Tryz.underlying2 rfl ((HM.box_at 0 rfl) 0 _ rfl)) ?_
  refine ox rfl rfl rfl rfl (ex_neq rfl rfl rfl) ?_
  refine ops_nil (at_then ?_)
  refine run_cond (b := (x0.fCode != x1.fCode)) rfl (fun hb6603 => ?_) (fun hb6603 => ?_)
  · replace H := cond_t hb6603 H
    refine run_seq ?_
    refine run_region rfl ?_
    refine ox rfl rfl rfl rfl (ex_assign rfl rfl) ?_
    refine ops_nil (at_then ?_)
    refine run_ret ?_
    refine at_then_ret ?_
    replace HM := (HM.front 0 rfl rfl).drop
    replace HM := (HM.front 0 rfl rfl).drop
    have hR := Option.some.inj H
    subst hR
    exact at_ret1 rfl rfl ⟨_, rfl, rfl, HM⟩
  · replace H := cond_f hb6603 H
    refine run_skip ?_
    refine at_then ?_
    refine run_seq ?_
    refine run_seq ?_
    obtain ⟨t6604, h6605, H⟩ := bind_some H
    refine run_region rfl ?_
    refine ox rfl rfl rfl rfl (ex_fieldAddr (off' := 1) rfl rfl Tryz.underlying31 rfl tsz29 rfl) ?_
    refine ox rfl rfl rfl rfl (ex_load1 rfl rfl Tryz.underlying29 rfl ((HM.box_at 1 rfl) 1 _ rfl)) ?_
    refine ox rfl rfl rfl rfl (ex_fieldAddr (off' := 1) rfl rfl Tryz.underlying31 rfl tsz29 rfl) ?_
    refine ox rfl rfl rfl rfl (ex_load1 rfl rfl Tryz.underlying29 rfl ((HM.box_at 0 rfl) 1 _ rfl)) ?_
    refine od rfl rfl rfl rfl (does_callk rfl callok11 rfl (laws_eqCoinS.calls (x0 := x0.fCoins) (x1 := x1.fCoins) (HM.rd hp0_0) (HM.rd hp1_0) h6605)) ?_
    rintro _ w6606 ⟨rfl, hn⟩
    replace HM : Mem w [] w6606 [box b6597 31 [.int .i64 x1.fCode, p1_0], box b6594 31 [.int .i64 x0.fCode, p0_0]] := HM.call hn
    refine ox rfl rfl rfl rfl (ex_not rfl rfl) ?_
    refine ops_nil (at_then ?_)
    refine run_cond (b := !t6604) rfl (fun hb6607 => ?_) (fun hb6607 => ?_)
    · replace H := cond_t hb6607 H
      refine run_seq ?_
      refine run_region rfl ?_
      refine ox rfl rfl rfl rfl (ex_assign rfl rfl) ?_
      refine ops_nil (at_then ?_)
      refine run_ret ?_
      refine at_then_ret ?_
      replace HM := (HM.front 0 rfl rfl).drop
      replace HM := (HM.front 0 rfl rfl).drop
      have hR := Option.some.inj H
      subst hR
      exact at_ret1 rfl rfl ⟨_, rfl, rfl, HM⟩
    · replace H := cond_f hb6607 H
      refine run_skip ?_
      refine at_then ?_
      refine run_seq ?_
      refine run_region rfl ?_
      refine ox rfl rfl rfl rfl (ex_assign rfl rfl) ?_
      refine ops_nil (at_then ?_)
      refine run_ret ?_
      replace HM := (HM.front 0 rfl rfl).drop
      replace HM := (HM.front 0 rfl rfl).drop
      have hR := Option.some.inj H
      subst hR
      exact at_ret1 rfl rfl ⟨_, rfl, rfl, HM⟩

def laws_eqRefS.l0 (x0 : List Ref) (x1 : List Ref) : Nat → Int → Option (Bool ⊕ Unit)
  | 0, _ => none
  | k + 1, a6710 => (bif (decide (a6710 < (x0.length : Int))) then (chk (idxOk a6710 x0.length) (chk (idxOk a6710 x1.length) ((laws_eqRef.f k (gt x0 a6710) (gt x1 a6710)).bind fun t6726 => (bif !t6726 then some (.inl false) else laws_eqRefS.l0 x0 x1 k (wrap64 (a6710 + 1)))))) else some (.inr ()))
theorem laws_eqRefS.l0_z (x0 : List Ref) (x1 : List Ref) (a6710 : Int) : laws_eqRefS.l0 x0 x1 0 a6710 = none := rfl
theorem laws_eqRefS.l0_s (x0 : List Ref) (x1 : List Ref) (k : Nat) (a6710 : Int) : laws_eqRefS.l0 x0 x1 (k + 1) a6710 = (bif (decide (a6710 < (x0.length : Int))) then (chk (idxOk a6710 x0.length) (chk (idxOk a6710 x1.length) ((laws_eqRef.f k (gt x0 a6710) (gt x1 a6710)).bind fun t6726 => (bif !t6726 then some (.inl false) else laws_eqRefS.l0 x0 x1 k (wrap64 (a6710 + 1)))))) else some (.inr ())) := rfl
def laws_eqRefS.f (k : Nat) (x0 : List Ref) (x1 : List Ref) : Option Bool := (bif ((x0.length : Int) != (x1.length : Int)) then some false else ((laws_eqRefS.l0 x0 x1 k 0).bind fun o6700 => thn o6700 (fun r => some r) (fun _ => some true)))
theorem laws_eqRefS.calls {k : Nat} {x0 : List Ref} {x1 : List Ref} {p0 : Value} {p1 : Value} {w : World} (hp0 : RdS kRef w p0 x0) (hp1 : RdS kRef w p1 x1) {r : Bool} (H : laws_eqRefS.f k x0 x1 = some r) :
    Calls Tryz.prog 34 ([p0, p1] : List Value).toArray w (fun e w_ => ∃ v, e = .returned v ∧ v = (.bool r) ∧ Mem w [] w_ []) := by
  have HM := Mem.start w
  refine calls_run (N := 27) Tryz.func34 rfl rfl rfl rfl ?_
  unfold laws_eqRefS.f at H
  refine run_seq ?_
  refine run_region rfl ?_
  refine ox rfl rfl rfl rfl (ex_assign rfl rfl) ?_
  refine ops_nil (at_then (run_seq ?_))
  refine run_seq ?_
  refine run_region rfl ?_
  refine ox rfl rfl rfl rfl (ex_move rfl rfl) ?_
  refine ox rfl rfl rfl rfl (ex_len (d := kRef) (xs := x0) rfl rfl Tryz.underlying34 hp0) ?_
  refine ox rfl rfl rfl rfl (ex_move rfl rfl) ?_
  refine ox rfl rfl rfl rfl (ex_len (d := kRef) (xs := x1) rfl rfl Tryz.underlying34 hp1) ?_
  refine ox rfl rfl rfl rfl (ex_neq rfl rfl rfl) ?_
  refine ops_nil (at_then ?_)
  refine run_cond (b := ((x0.length : Int) != (x1.length : Int))) rfl (fun hb6674 => ?_) (fun hb6674 => ?_)
  · replace H := cond_t hb6674 H
    refine run_seq ?_
    refine run_region rfl ?_
    refine ox rfl rfl rfl rfl (ex_assign rfl rfl) ?_
    refine ops_nil (at_then ?_)
    refine run_ret ?_
    refine at_then_ret ?_
    have hR := Option.some.inj H
    subst hR
    exact at_ret1 rfl rfl ⟨_, rfl, rfl, HM⟩
  · replace H := cond_f hb6674 H
    refine run_skip ?_
    refine at_then ?_
    obtain ⟨o6700, ho6701, H⟩ := bind_some H
    refine run_mid (fun ρ_ w_ => Sum.inr () = o6700 ∧ ρ_ = [] ∧ Mem w [] w_ []) ?_ ?_
    · skip
      refine run_seq ?_
      refine run_region rfl ?_
      refine ox rfl rfl rfl rfl (ex_assign rfl rfl) ?_
      refine ops_nil (at_then ?_)
      refine run_block ?_
      refine run_loop (fun k_ ρ_ w_ => ∃ a6710 : Int, laws_eqRefS.l0 x0 x1 k_ a6710 = some o6700 ∧ ρ_ = [(0, p0), (1, p1), (5, .int .i64 a6710)] ∧ Mem w [] w_ []) k (ρ1 := [(0, p0), (1, p1), (5, .int .i64 0)]) ⟨_, ho6701, rfl, HM⟩ (Sub.cons rfl (Sub.cons rfl (Sub.cons rfl Sub.nil))) ?_
      clear HM ho6701
      rintro k6719 _ w6720 ⟨a6710, ho6701, rfl, HM⟩
      obtain _ | k6719 := k6719
      · exact nomatch ((laws_eqRefS.l0_z x0 x1 a6710).symm.trans ho6701)
      replace ho6701 := (laws_eqRefS.l0_s x0 x1 k6719 a6710).symm.trans ho6701
      refine run_seq ?_
      refine run_seq ?_
      refine run_region rfl ?_
      refine ox rfl rfl rfl rfl (ex_move rfl rfl) ?_
      refine ox rfl rfl rfl rfl (ex_move rfl rfl) ?_
      refine ox rfl rfl rfl rfl (ex_len (d := kRef) (xs := x0) rfl rfl Tryz.underlying34 hp0) ?_
      refine ox rfl rfl rfl rfl (ex_lss rfl rfl rfl) ?_
      refine ops_nil (at_then ?_)
      refine run_cond (b := (decide (a6710 < (x0.length : Int)))) rfl (fun hb6721 => ?_) (fun hb6721 => ?_)
      · replace ho6701 := cond_t hb6721 ho6701
        refine run_skip ?_
        refine at_then ?_
        refine run_seq ?_
        refine run_block ?_
        refine run_seq ?_
        obtain ⟨e6722, ho6701⟩ := chk_some ho6701
        obtain ⟨e6724, ho6701⟩ := chk_some ho6701
        obtain ⟨t6726, h6727, ho6701⟩ := bind_some ho6701
        refine run_drawf (fun w_ => Mem w [] w_ []) [(0, true), (1, true), (2, true), (3, true), (4, true), (5, true), (6, true), (7, true), (8, false), (9, true)] mixed rfl rfl (by kernel_rfl) ?_
        replace HM := HM.grow (fr_drew _)
        have hS := Mem.suf (M := []) HM
        refine dp rfl rfl rfl rfl (ex_move rfl rfl) hS ?_
        refine dp rfl rfl rfl rfl (ex_move rfl rfl) hS ?_
        have hc6723 : CellsAt _ (sb p0) (so p0 + (a6710).toNat * 2) [(.int .i64 ((gt x0 a6710).fTx)), (.int .i64 ((gt x0 a6710).fAt))] := rd_plain hp0 e6722
        refine dp rfl rfl rfl rfl (ex_indexAddr (d := kRef) rfl rfl rfl Tryz.underlying34 tsz66 hp0 (idx_lo e6722) (idx_hi e6722)) hS ?_
        refine drwp_take rfl (guard_none rfl) rfl rfl (fun w_ hS_ => (ex_loadN (cs := [(.int .i64 ((gt x0 a6710).fTx)), (.int .i64 ((gt x0 a6710).fAt))]) rfl rfl Tryz.underlying66 rfl tsz66 rfl ((hS_.at_ hc6723).sub 0 2 rfl))) hS ?_
        refine dp rfl rfl rfl rfl (ex_move rfl rfl) hS ?_
        refine dp rfl rfl rfl rfl (ex_move rfl rfl) hS ?_
        have hc6725 : CellsAt _ (sb p1) (so p1 + (a6710).toNat * 2) [(.int .i64 ((gt x1 a6710).fTx)), (.int .i64 ((gt x1 a6710).fAt))] := rd_plain hp1 e6724
        refine dp rfl rfl rfl rfl (ex_indexAddr (d := kRef) rfl rfl rfl Tryz.underlying34 tsz66 hp1 (idx_lo e6724) (idx_hi e6724)) hS ?_
        refine drwp_take rfl (guard_none rfl) rfl rfl (fun w_ hS_ => (ex_loadN (cs := [(.int .i64 ((gt x1 a6710).fTx)), (.int .i64 ((gt x1 a6710).fAt))]) rfl rfl Tryz.underlying66 rfl tsz66 rfl ((hS_.at_ hc6725).sub 0 2 rfl))) hS ?_
        refine drwp_one rfl (guard_none rfl) rfl rfl (does_callk rfl callok72 rfl (laws_eqRef.calls (x0 := (gt x0 a6710)) (x1 := (gt x1 a6710)) h6727)) ?_
        rintro _ w6728 ⟨rfl, hn⟩
        replace HM : Mem w [] w6728 [] := HM.call hn
        have hS := Mem.suf (M := []) HM
        refine ⟨hS, ?_⟩
        refine dp rfl rfl rfl rfl (ex_not rfl rfl) hS ?_
        refine drwp_done ?_
        refine at_then ?_
        refine run_cond (b := !t6726) rfl (fun hb6729 => ?_) (fun hb6729 => ?_)
        · replace ho6701 := cond_t hb6729 ho6701
          refine run_seq ?_
          refine run_region rfl ?_
          refine ox rfl rfl rfl rfl (ex_assign rfl rfl) ?_
          refine ops_nil (at_then ?_)
          refine run_ret ?_
          refine at_block_ret ?_
          refine at_then_ret ?_
          refine at_then_ret ?_
          refine at_block_ret ?_
          refine at_then_ret ?_
          have hR := Option.some.inj ho6701
          subst hR
          have hT := thn_inl H
          have hR := Option.some.inj hT
          subst hR
          exact at_ret1 rfl rfl ⟨_, rfl, rfl, HM⟩
        · replace ho6701 := cond_f hb6729 ho6701
          refine run_skip ?_
          refine at_block ?_
          refine at_then ?_
          refine run_region rfl ?_
          refine ox rfl rfl rfl rfl (ex_move rfl rfl) ?_
          refine ox rfl rfl rfl rfl (ex_add rfl rfl rfl) ?_
          refine ox rfl rfl rfl rfl (ex_assign rfl rfl) ?_
          refine ops_nil ?_
          exact at_again k6719 (ρ1 := [(0, p0), (1, p1), (5, .int .i64 (wrap64 (a6710 + 1)))]) (Nat.lt_succ_self _) ⟨_, ho6701, rfl, HM⟩ (Sub.cons rfl (Sub.cons rfl (Sub.cons rfl Sub.nil)))
      · replace ho6701 := cond_f hb6721 ho6701
        refine run_exit ?_
        refine at_then_exit ?_
        refine at_then_exit ?_
        refine at_block_exit ?_
        exact at_mid (ρ' := []) ⟨(Option.some.inj ho6701), rfl, HM⟩ Sub.nil
    · rintro _ w6730 ⟨rfl, rfl, HM⟩
      replace H := (thn_inr H)
      refine run_seq ?_
      refine run_region rfl ?_
      refine ox rfl rfl rfl rfl (ex_assign rfl rfl) ?_
      refine ops_nil (at_then ?_)
      refine run_ret ?_
      have hR := Option.some.inj H
      subst hR
      exact at_ret1 rfl rfl ⟨_, rfl, rfl, HM⟩
end Go.Proofs.YtecgbhfgkkpmhabGreat.Zk
