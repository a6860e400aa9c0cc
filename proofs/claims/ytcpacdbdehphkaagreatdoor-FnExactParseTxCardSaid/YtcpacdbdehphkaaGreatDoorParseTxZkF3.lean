/- What functions of the program compute, each as a plain function, and that they do. Conditions: as each theorem states them. -/
import Derived.Test.YtcpacdbdehphkaaGreatDoorParseTxZkF2
namespace Go.Proofs.YtcpacdbdehphkaaGreatDoor.Zk
open Go Go.RowKit Go.IntWalk Go.Proofs
set_option linter.unusedVariables false
set_option linter.unusedSimpArgs false
set_option maxRecDepth 100000
set_option maxHeartbeats 4000000
def spec_l3Parse.l0 (t2242 : (List ByteArray)) (a2280 : Int) (a2281 : Int) (t2323 : (List Ref) × Bool) : Nat → (List Out) → Bool → Int → Option ((Tx × Bool) ⊕ ((List Out) × Bool))
  | 0, _, _, _ => none
  | k + 1, a2449, a2451, a2452 => (bif ((decide (a2452 < (t2242.length : Int))) && a2451) then (chk (idxOk a2452 t2242.length) ((spec_l2Cut.f k (gt t2242 a2452) 61).bind fun t2488 => (bif ((t2488.length : Int) != 2) then some (.inl ((⟨a2280, a2281, t2323.1, a2449⟩ : Tx), false)) else (chk (idxOk (0 : Int) t2488.length) ((spec_l2Number.f k (gt t2488 (0 : Int)) 7).bind fun t2497 => (chk (idxOk (1 : Int) t2488.length) ((spec_l3Swap.f k (gt t2488 (1 : Int)) 95 32).bind fun t2501 => ((spec_l2Parse.f k t2501).bind fun t2503 => (chk (leB ((a2449.length + ([(⟨t2497.1, (⟨t2503.1.fKeys, t2503.1.fNeed, t2503.1.fAfter⟩ : Rule)⟩ : Out)] : List Out).length) * 48) 140737488355328) (spec_l3Parse.l0 t2242 a2280 a2281 t2323 k (a2449 ++ ([(⟨t2497.1, (⟨t2503.1.fKeys, t2503.1.fNeed, t2503.1.fAfter⟩ : Rule)⟩ : Out)] : List Out)) (t2497.2 && t2503.2) (wrap64 (a2452 + 1)))))))))))) else some (.inr (a2449, a2451)))
theorem spec_l3Parse.l0_z (t2242 : (List ByteArray)) (a2280 : Int) (a2281 : Int) (t2323 : (List Ref) × Bool) (a2449 : List Out) (a2451 : Bool) (a2452 : Int) : spec_l3Parse.l0 t2242 a2280 a2281 t2323 0 a2449 a2451 a2452 = none := rfl
theorem spec_l3Parse.l0_s (t2242 : (List ByteArray)) (a2280 : Int) (a2281 : Int) (t2323 : (List Ref) × Bool) (k : Nat) (a2449 : List Out) (a2451 : Bool) (a2452 : Int) : spec_l3Parse.l0 t2242 a2280 a2281 t2323 (k + 1) a2449 a2451 a2452 = (bif ((decide (a2452 < (t2242.length : Int))) && a2451) then (chk (idxOk a2452 t2242.length) ((spec_l2Cut.f k (gt t2242 a2452) 61).bind fun t2488 => (bif ((t2488.length : Int) != 2) then some (.inl ((⟨a2280, a2281, t2323.1, a2449⟩ : Tx), false)) else (chk (idxOk (0 : Int) t2488.length) ((spec_l2Number.f k (gt t2488 (0 : Int)) 7).bind fun t2497 => (chk (idxOk (1 : Int) t2488.length) ((spec_l3Swap.f k (gt t2488 (1 : Int)) 95 32).bind fun t2501 => ((spec_l2Parse.f k t2501).bind fun t2503 => (chk (leB ((a2449.length + ([(⟨t2497.1, (⟨t2503.1.fKeys, t2503.1.fNeed, t2503.1.fAfter⟩ : Rule)⟩ : Out)] : List Out).length) * 48) 140737488355328) (spec_l3Parse.l0 t2242 a2280 a2281 t2323 k (a2449 ++ ([(⟨t2497.1, (⟨t2503.1.fKeys, t2503.1.fNeed, t2503.1.fAfter⟩ : Rule)⟩ : Out)] : List Out)) (t2497.2 && t2503.2) (wrap64 (a2452 + 1)))))))))))) else some (.inr (a2449, a2451))) := rfl
def spec_l3Parse.f (k : Nat) (x0 : ByteArray) : Option (Tx × Bool) := ((spec_l2Cut.f k x0 32).bind fun t2242 => ((chk (idxOk (0 : Int) t2242.length) (chk (!(!(sEq (gt t2242 (0 : Int)) (⟨#[106, 111, 105, 110]⟩ : ByteArray))) || (idxOk (0 : Int) t2242.length)) (bif ((sEq (gt t2242 (0 : Int)) (⟨#[106, 111, 105, 110]⟩ : ByteArray)) || (sEq (gt t2242 (0 : Int)) (⟨#[108, 101, 97, 118, 101]⟩ : ByteArray))) then (bif (decide ((t2242.length : Int) < 2)) then some (.inl ((⟨0, 0, ([] : List Ref), ([] : List Out)⟩ : Tx), false)) else (chk (idxOk (1 : Int) t2242.length) ((spec_l2Number.f k (gt t2242 (1 : Int)) 3).bind fun t2297 => (bif !t2297.2 then some (.inl ((⟨0, 0, ([] : List Ref), ([] : List Out)⟩ : Tx), false)) else (chk (idxOk (0 : Int) t2242.length) (bif (sEq (gt t2242 (0 : Int)) (⟨#[108, 101, 97, 118, 101]⟩ : ByteArray)) then some (.inr (2, t2297.1, 2)) else some (.inr (1, t2297.1, 2)))))))) else (chk (idxOk (0 : Int) t2242.length) (bif (!sEq (gt t2242 (0 : Int)) (⟨#[112, 97, 121]⟩ : ByteArray)) then some (.inl ((⟨0, 0, ([] : List Ref), ([] : List Out)⟩ : Tx), false)) else some (.inr (0, 0, 1))))))).bind fun o2283 => thn o2283 (fun r => some r) (cur3 (fun a2280 a2281 a2282 => (bif (decide ((t2242.length : Int) < (wrap64 (a2282 + 2)))) then some ((⟨a2280, a2281, ([] : List Ref), ([] : List Out)⟩ : Tx), false) else (chk (idxOk a2282 t2242.length) ((spec_l3Ins.f k (gt t2242 a2282)).bind fun t2323 => ((spec_l3Parse.l0 t2242 a2280 a2281 t2323 k ([] : List Out) t2323.2 (wrap64 (a2282 + 1))).bind fun o2419 => thn o2419 (fun r => some r) (cur2 (fun a2416 a2418 => ((bif a2418 then spec_l3Fault.f k (⟨a2280, a2281, t2323.1, a2416⟩ : Tx) else some default).bind fun t2527 => ((bif (a2418 && (t2527 == 0)) then spec_l3Text.f k (⟨a2280, a2281, t2323.1, a2416⟩ : Tx) else some default).bind fun t2529 => some ((⟨a2280, a2281, t2323.1, a2416⟩ : Tx), (((a2418 && (t2527 == 0)) && (sEq t2529 x0)) && (decide ((x0.size : Int) ≤ 300))))))))))))))))
theorem spec_l3Parse.calls {k : Nat} {x0 : ByteArray}  {w : World}  {r : Tx × Bool} (H : spec_l3Parse.f k x0 = some r) :
    Calls Tryz.prog 9 ([.string x0] : List Value).toArray w (fun e w_ => ∃ v, e = .returned v ∧ ∃ u0 : Value, ∃ u1 : Value, v = (.tuple #[.agg #[.int .i64 r.1.fKind, .int .i64 r.1.fMember, u0, u1], .bool r.2]) ∧ Mem w [] w_ [own kRef 60 u0 r.1.fIns, own kOut 49 u1 r.1.fOuts]) := by
  have HM := Mem.start w
  refine calls_run (N := 136) Tryz.func9 rfl rfl rfl rfl ?_
  unfold spec_l3Parse.f at H
  refine run_seq ?_
  refine run_region rfl ?_
  refine ops_does rfl (guard_none rfl) rfl rfl (does_alloc (cs := [.int .i64 0, .int .i64 0, .slice none 0 0, .slice none 0 0]) rfl tz25 rfl HM) ?_
  rintro _ w2241 ⟨b2238, rfl, HM⟩
  refine ops_ex rfl (guard_none rfl) rfl rfl (ex_assign rfl rfl) ?_
  refine ops_nil ?_
  refine at_then ?_
  refine run_seq ?_
  obtain ⟨t2242, h2243, H⟩ := bind_some H
  refine run_region rfl ?_
  refine ops_ex rfl (guard_none rfl) rfl rfl (ex_move rfl rfl) ?_
  refine ops_does rfl (guard_none rfl) rfl rfl (does_callk rfl callok14 rfl (spec_l2Cut.calls (x0 := x0) (x1 := 32) h2243)) ?_
  rintro u2244 w2246 ⟨_, rfl, hn⟩
  replace HM : Mem w [] w2246 [own kStr 9 u2244 t2242, box b2238 25 [.int .i64 0, .int .i64 0, .slice none 0 0, .slice none 0 0]] := HM.call hn
  refine ops_ex rfl (guard_none rfl) rfl rfl (ex_assign rfl rfl) ?_
  refine ops_nil ?_
  refine at_then ?_
  refine run_seq ?_
  refine run_region rfl ?_
  refine ops_ex rfl (guard_none rfl) rfl rfl (ex_build (cells := #[(.int .i64 0), (.int .i64 0), (.slice none 0 0), (.slice none 0 0)]) rfl rfl (by kernel_rfl)) ?_
  refine ops_does rfl (guard_none rfl) rfl rfl (does_alloc (cs := [.int .i64 0, .int .i64 0, .slice none 0 0, .slice none 0 0]) rfl tz25 rfl HM) ?_
  rintro _ w2250 ⟨b2247, rfl, HM⟩
  refine ops_doesS rfl (guard_none rfl) rfl (does_store (vs := [.int .i64 0, .int .i64 0, .slice none 0 0, .slice none 0 0]) (cs' := [.int .i64 0, .int .i64 0, .slice none 0 0, .slice none 0 0]) rfl rfl rfl rfl tsz25 (Ones.int (Ones.int (Ones.sl (Ones.sl Ones.nil)))) rfl rfl HM) ?_
  rintro w2251 HM
  refine ops_nil ?_
  refine at_then ?_
  refine run_seq ?_
  refine run_region rfl ?_
  refine ops_ex rfl (guard_none rfl) rfl rfl (ex_assign rfl rfl) ?_
  refine ops_nil ?_
  refine at_then ?_
  obtain ⟨o2283, ho2284, H⟩ := bind_some H
  refine run_mid (fun ρ_ w_ => ∃ a2280 : Int, ∃ a2281 : Int, ∃ a2282 : Int, Sum.inr (a2280, a2281, a2282) = o2283 ∧ ρ_ = [(0, .string x0), (2, .pointer (some ⟨b2238, 0, none⟩)), (4, u2244), (5, .pointer (some ⟨b2247, 0, none⟩)), (6, .int .i64 a2282)] ∧ Mem w [] w_ [box b2238 25 [.int .i64 0, .int .i64 0, .slice none 0 0, .slice none 0 0], own kStr 9 u2244 t2242, box b2247 25 [.int .i64 a2280, .int .i64 a2281, .slice none 0 0, .slice none 0 0]]) ?_ ?_
  · skip
    refine run_seq ?_
    obtain ⟨e2285, ho2284⟩ := chk_some ho2284
    obtain ⟨e2286, ho2284⟩ := chk_some ho2284
    refine run_meet (fun ρ_ w_ => ρ_ = [(0, .string x0), (2, .pointer (some ⟨b2238, 0, none⟩)), (4, u2244), (5, .pointer (some ⟨b2247, 0, none⟩)), (6, .int .i64 1), (29, .bool ((sEq (gt t2242 (0 : Int)) (⟨#[106, 111, 105, 110]⟩ : ByteArray)) || (sEq (gt t2242 (0 : Int)) (⟨#[108, 101, 97, 118, 101]⟩ : ByteArray))))] ∧ Mem w [] w_ [box b2238 25 [.int .i64 0, .int .i64 0, .slice none 0 0, .slice none 0 0], own kStr 9 u2244 t2242, box b2247 25 [.int .i64 0, .int .i64 0, .slice none 0 0, .slice none 0 0]]) ?_ ?_
    · skip
      refine run_region rfl ?_
      refine ops_ex rfl (guard_none rfl) rfl rfl (ex_move rfl rfl) ?_
      refine ops_ex rfl (guard_none rfl) rfl rfl (ex_indexAddr (d := kStr) rfl rfl rfl Tryz.underlying36 tsz9 (HM.own_rd 1 rfl) (idx_lo e2285) (idx_hi e2285)) ?_
      refine ops_ex rfl (guard_none rfl) rfl rfl (ex_load1 rfl rfl Tryz.underlying9 rfl ((rd_plain (HM.own_rd 1 rfl) e2285) 0 _ rfl)) ?_
      refine ops_ex rfl (guard_none rfl) rfl rfl (ex_seql rfl rfl rfl) ?_
      refine ops_ex rfl (guard_none rfl) rfl rfl (ex_move rfl rfl) ?_
      refine bool_cases (sEq (gt t2242 (0 : Int)) (⟨#[106, 111, 105, 110]⟩ : ByteArray)) (fun hg2287 => ?_) (fun hg2287 => ?_)
      · skip
        refine ops_off rfl (guard_off rfl rfl rfl hg2287) rfl rfl ?_
        refine ops_off rfl (guard_off rfl rfl rfl hg2287) rfl rfl ?_
        refine ops_off rfl (guard_off rfl rfl rfl hg2287) rfl rfl ?_
        refine ops_off rfl (guard_off rfl rfl rfl hg2287) rfl rfl ?_
        have hg2288 : ((sEq (gt t2242 (0 : Int)) (⟨#[106, 111, 105, 110]⟩ : ByteArray)) || (sEq (gt t2242 (0 : Int)) (⟨#[108, 101, 97, 118, 101]⟩ : ByteArray))) = true := by simp only [hg2287, Bool.and_true, Bool.true_and, Bool.and_false, Bool.false_and, Bool.or_true, Bool.true_or, Bool.or_false, Bool.false_or, Bool.not_true, Bool.not_false, Bool.not_not]
        refine ops_ex (v := .bool ((sEq (gt t2242 (0 : Int)) (⟨#[106, 111, 105, 110]⟩ : ByteArray)) || (sEq (gt t2242 (0 : Int)) (⟨#[108, 101, 97, 118, 101]⟩ : ByteArray)))) rfl (guard_none rfl) rfl rfl (ex_por_t rfl rfl hg2287) ?_
        refine ops_nil ?_
        replace HM := HM.front 1 rfl rfl
        replace HM := HM.front 2 rfl rfl
        exact at_meet [(0, .string x0), (2, .pointer (some ⟨b2238, 0, none⟩)), (4, u2244), (5, .pointer (some ⟨b2247, 0, none⟩)), (6, .int .i64 1), (29, .bool ((sEq (gt t2242 (0 : Int)) (⟨#[106, 111, 105, 110]⟩ : ByteArray)) || (sEq (gt t2242 (0 : Int)) (⟨#[108, 101, 97, 118, 101]⟩ : ByteArray))))] ⟨rfl, HM⟩ (Sub.cons rfl (Sub.cons rfl (Sub.cons rfl (Sub.cons rfl (Sub.cons rfl (Sub.cons rfl Sub.nil))))))
      · skip
        refine ops_ex rfl (guard_on rfl rfl rfl hg2287) rfl rfl (ex_move rfl rfl) ?_
        refine ops_ex rfl (guard_on rfl rfl rfl hg2287) rfl rfl (ex_indexAddr (d := kStr) rfl rfl rfl Tryz.underlying36 tsz9 (HM.own_rd 1 rfl) (idx_lo (or_t e2286 (not_mk hg2287))) (idx_hi (or_t e2286 (not_mk hg2287)))) ?_
        refine ops_ex rfl (guard_on rfl rfl rfl hg2287) rfl rfl (ex_load1 rfl rfl Tryz.underlying9 rfl ((rd_plain (HM.own_rd 1 rfl) (or_t e2286 (not_mk hg2287))) 0 _ rfl)) ?_
        refine ops_ex rfl (guard_on rfl rfl rfl hg2287) rfl rfl (ex_seql rfl rfl rfl) ?_
        refine ops_ex (v := .bool ((sEq (gt t2242 (0 : Int)) (⟨#[106, 111, 105, 110]⟩ : ByteArray)) || (sEq (gt t2242 (0 : Int)) (⟨#[108, 101, 97, 118, 101]⟩ : ByteArray)))) rfl (guard_none rfl) rfl rfl (ex_por_f rfl rfl hg2287 rfl) ?_
        refine ops_nil ?_
        replace HM := HM.front 1 rfl rfl
        replace HM := HM.front 2 rfl rfl
        exact at_meet [(0, .string x0), (2, .pointer (some ⟨b2238, 0, none⟩)), (4, u2244), (5, .pointer (some ⟨b2247, 0, none⟩)), (6, .int .i64 1), (29, .bool ((sEq (gt t2242 (0 : Int)) (⟨#[106, 111, 105, 110]⟩ : ByteArray)) || (sEq (gt t2242 (0 : Int)) (⟨#[108, 101, 97, 118, 101]⟩ : ByteArray))))] ⟨rfl, HM⟩ (Sub.cons rfl (Sub.cons rfl (Sub.cons rfl (Sub.cons rfl (Sub.cons rfl (Sub.cons rfl Sub.nil))))))
    · rintro _ w2289 ⟨rfl, HM⟩
      refine at_then ?_
      refine run_cond (b := ((sEq (gt t2242 (0 : Int)) (⟨#[106, 111, 105, 110]⟩ : ByteArray)) || (sEq (gt t2242 (0 : Int)) (⟨#[108, 101, 97, 118, 101]⟩ : ByteArray)))) rfl (fun hb2290 => ?_) (fun hb2290 => ?_)
      · replace ho2284 := cond_t hb2290 ho2284
        refine run_seq ?_
        refine run_seq ?_
        refine run_region rfl ?_
        refine ops_ex rfl (guard_none rfl) rfl rfl (ex_move rfl rfl) ?_
        refine ops_ex rfl (guard_none rfl) rfl rfl (ex_len (d := kStr) (xs := t2242) rfl rfl Tryz.underlying36 (HM.own_rd 1 rfl)) ?_
        refine ops_ex rfl (guard_none rfl) rfl rfl (ex_lss rfl rfl rfl) ?_
        refine ops_nil ?_
        refine at_then ?_
        refine run_cond (b := (decide ((t2242.length : Int) < 2))) rfl (fun hb2292 => ?_) (fun hb2292 => ?_)
        · replace ho2284 := cond_t hb2292 ho2284
          refine run_seq ?_
          refine run_region rfl ?_
          refine ops_ex rfl (guard_none rfl) rfl rfl (ex_loadN (cs := [(.int .i64 0), (.int .i64 0), (.slice none 0 0), (.slice none 0 0)]) rfl rfl Tryz.underlying25 rfl tsz25 rfl ((HM.box_at 2 rfl).sub 0 4 rfl)) ?_
          refine ops_doesS rfl (guard_none rfl) rfl (does_store (vs := [.int .i64 0, .int .i64 0, .slice none 0 0, .slice none 0 0]) (cs' := [.int .i64 0, .int .i64 0, .slice none 0 0, .slice none 0 0]) rfl rfl rfl rfl tsz25 (Ones.int (Ones.int (Ones.sl (Ones.sl Ones.nil)))) rfl rfl HM) ?_
          rintro w2293 HM
          refine ops_ex rfl (guard_none rfl) rfl rfl (ex_assign rfl rfl) ?_
          refine ops_nil ?_
          refine at_then ?_
          refine run_ret ?_
          refine at_then_ret ?_
          refine at_then_ret ?_
          replace HM := HM.empty kRef 60 none
          replace HM := HM.empty kOut 49 none
          replace HM := (HM.front 3 rfl rfl).drop
          replace HM := (HM.front 3 rfl rfl).drop
          replace HM := HM.front 1 rfl rfl
          replace HM := HM.front 2 rfl rfl
          have hcb0 := HM.box_at 0 rfl
          replace HM := (HM.front 0 rfl rfl).drop
          have hR := Option.some.inj ho2284
          subst hR
          have hT := thn_inl H
          have hR := Option.some.inj hT
          subst hR
          exact at_retN1 rfl rfl rfl Tryz.underlying25 rfl tsz25 rfl hcb0 ⟨_, rfl, _, _, rfl, HM⟩
        · replace ho2284 := cond_f hb2292 ho2284
          refine run_skip ?_
          refine at_then ?_
          refine run_seq ?_
          obtain ⟨e2296, ho2284⟩ := chk_some ho2284
          obtain ⟨t2297, h2298, ho2284⟩ := bind_some ho2284
          refine run_region rfl ?_
          refine ops_ex rfl (guard_none rfl) rfl rfl (ex_move rfl rfl) ?_
          refine ops_ex rfl (guard_none rfl) rfl rfl (ex_indexAddr (d := kStr) rfl rfl rfl Tryz.underlying36 tsz9 (HM.own_rd 1 rfl) (idx_lo e2296) (idx_hi e2296)) ?_
          refine ops_ex rfl (guard_none rfl) rfl rfl (ex_load1 rfl rfl Tryz.underlying9 rfl ((rd_plain (HM.own_rd 1 rfl) e2296) 0 _ rfl)) ?_
          refine ops_does rfl (guard_none rfl) rfl rfl (does_callk rfl callok15 rfl (spec_l2Number.calls (x0 := (gt t2242 (1 : Int))) (x1 := 3) h2298)) ?_
          rintro _ w2299 ⟨rfl, hn⟩
          replace HM : Mem w [] w2299 [box b2238 25 [.int .i64 0, .int .i64 0, .slice none 0 0, .slice none 0 0], own kStr 9 u2244 t2242, box b2247 25 [.int .i64 0, .int .i64 0, .slice none 0 0, .slice none 0 0]] := HM.call hn
          refine ops_ex rfl (guard_none rfl) rfl rfl (ex_move rfl rfl) ?_
          refine ops_ex rfl (guard_none rfl) rfl rfl (ex_extract rfl rfl rfl) ?_
          refine ops_ex rfl (guard_none rfl) rfl rfl (ex_extract rfl rfl rfl) ?_
          refine ops_ex rfl (guard_none rfl) rfl rfl (ex_assign rfl rfl) ?_
          refine ops_ex rfl (guard_none rfl) rfl rfl (ex_assign rfl rfl) ?_
          refine ops_nil ?_
          refine at_then ?_
          refine run_seq ?_
          refine run_seq ?_
          refine run_region rfl ?_
          refine ops_ex rfl (guard_none rfl) rfl rfl (ex_move rfl rfl) ?_
          refine ops_ex rfl (guard_none rfl) rfl rfl (ex_not rfl rfl) ?_
          refine ops_nil ?_
          refine at_then ?_
          refine run_cond (b := !t2297.2) rfl (fun hb2301 => ?_) (fun hb2301 => ?_)
          · replace ho2284 := cond_t hb2301 ho2284
            refine run_seq ?_
            refine run_region rfl ?_
            refine ops_ex rfl (guard_none rfl) rfl rfl (ex_loadN (cs := [(.int .i64 0), (.int .i64 0), (.slice none 0 0), (.slice none 0 0)]) rfl rfl Tryz.underlying25 rfl tsz25 rfl ((HM.box_at 2 rfl).sub 0 4 rfl)) ?_
            refine ops_doesS rfl (guard_none rfl) rfl (does_store (vs := [.int .i64 0, .int .i64 0, .slice none 0 0, .slice none 0 0]) (cs' := [.int .i64 0, .int .i64 0, .slice none 0 0, .slice none 0 0]) rfl rfl rfl rfl tsz25 (Ones.int (Ones.int (Ones.sl (Ones.sl Ones.nil)))) rfl rfl HM) ?_
            rintro w2302 HM
            refine ops_ex rfl (guard_none rfl) rfl rfl (ex_assign rfl rfl) ?_
            refine ops_nil ?_
            refine at_then ?_
            refine run_ret ?_
            refine at_then_ret ?_
            refine at_then_ret ?_
            replace HM := HM.empty kRef 60 none
            replace HM := HM.empty kOut 49 none
            replace HM := (HM.front 3 rfl rfl).drop
            replace HM := (HM.front 3 rfl rfl).drop
            replace HM := HM.front 1 rfl rfl
            replace HM := HM.front 2 rfl rfl
            have hcb0 := HM.box_at 0 rfl
            replace HM := (HM.front 0 rfl rfl).drop
            have hR := Option.some.inj ho2284
            subst hR
            have hT := thn_inl H
            have hR := Option.some.inj hT
            subst hR
            exact at_retN1 rfl rfl rfl Tryz.underlying25 rfl tsz25 rfl hcb0 ⟨_, rfl, _, _, rfl, HM⟩
          · replace ho2284 := cond_f hb2301 ho2284
            refine run_skip ?_
            refine at_then ?_
            refine run_seq ?_
            refine run_region rfl ?_
            refine ops_ex rfl (guard_none rfl) rfl rfl (ex_fieldAddr (off' := 0) rfl rfl Tryz.underlying25 rfl tsz2 rfl) ?_
            replace HM := HM.front 2 rfl rfl
            refine ops_doesS rfl (guard_none rfl) rfl (does_store (vs := [.int .i64 1]) (cs' := [.int .i64 1, .int .i64 0, .slice none 0 0, .slice none 0 0]) rfl rfl rfl rfl tsz2 (Ones.int Ones.nil) rfl rfl HM) ?_
            rintro w2305 HM
            refine ops_nil ?_
            refine at_then ?_
            refine run_seq ?_
            refine run_seq ?_
            obtain ⟨e2306, ho2284⟩ := chk_some ho2284
            refine run_region rfl ?_
            refine ops_ex rfl (guard_none rfl) rfl rfl (ex_move rfl rfl) ?_
            refine ops_ex rfl (guard_none rfl) rfl rfl (ex_indexAddr (d := kStr) rfl rfl rfl Tryz.underlying36 tsz9 (HM.own_rd 2 rfl) (idx_lo e2306) (idx_hi e2306)) ?_
            refine ops_ex rfl (guard_none rfl) rfl rfl (ex_load1 rfl rfl Tryz.underlying9 rfl ((rd_plain (HM.own_rd 2 rfl) e2306) 0 _ rfl)) ?_
            refine ops_ex rfl (guard_none rfl) rfl rfl (ex_seql rfl rfl rfl) ?_
            refine ops_nil ?_
            refine at_then ?_
            refine run_cond (b := (sEq (gt t2242 (0 : Int)) (⟨#[108, 101, 97, 118, 101]⟩ : ByteArray))) rfl (fun hb2307 => ?_) (fun hb2307 => ?_)
            · replace ho2284 := cond_t hb2307 ho2284
              refine run_region rfl ?_
              refine ops_ex rfl (guard_none rfl) rfl rfl (ex_fieldAddr (off' := 0) rfl rfl Tryz.underlying25 rfl tsz2 rfl) ?_
              refine ops_doesS rfl (guard_none rfl) rfl (does_store (vs := [.int .i64 2]) (cs' := [.int .i64 2, .int .i64 0, .slice none 0 0, .slice none 0 0]) rfl rfl rfl rfl tsz2 (Ones.int Ones.nil) rfl rfl HM) ?_
              rintro w2308 HM
              refine ops_nil ?_
              refine at_then ?_
              refine run_seq ?_
              refine run_region rfl ?_
              refine ops_ex rfl (guard_none rfl) rfl rfl (ex_move rfl rfl) ?_
              refine ops_ex rfl (guard_none rfl) rfl rfl (ex_fieldAddr (off' := 1) rfl rfl Tryz.underlying25 rfl tsz2 rfl) ?_
              refine ops_doesS rfl (guard_none rfl) rfl (does_store (vs := [.int .i64 t2297.1]) (cs' := [.int .i64 2, .int .i64 t2297.1, .slice none 0 0, .slice none 0 0]) rfl rfl rfl rfl tsz2 (Ones.int Ones.nil) rfl rfl HM) ?_
              rintro w2309 HM
              refine ops_nil ?_
              refine at_then ?_
              refine run_region rfl ?_
              refine ops_ex rfl (guard_none rfl) rfl rfl (ex_assign rfl rfl) ?_
              refine ops_nil ?_
              replace HM := HM.front 2 rfl rfl
              replace HM := HM.front 2 rfl rfl
              exact at_mid (ρ' := [(0, .string x0), (2, .pointer (some ⟨b2238, 0, none⟩)), (4, u2244), (5, .pointer (some ⟨b2247, 0, none⟩)), (6, .int .i64 2)]) ⟨_, _, _, (Option.some.inj ho2284), rfl, HM⟩ (Sub.cons rfl (Sub.cons rfl (Sub.cons rfl (Sub.cons rfl (Sub.cons rfl Sub.nil)))))
            · replace ho2284 := cond_f hb2307 ho2284
              refine run_skip ?_
              refine at_then ?_
              refine run_seq ?_
              refine run_region rfl ?_
              refine ops_ex rfl (guard_none rfl) rfl rfl (ex_move rfl rfl) ?_
              refine ops_ex rfl (guard_none rfl) rfl rfl (ex_fieldAddr (off' := 1) rfl rfl Tryz.underlying25 rfl tsz2 rfl) ?_
              refine ops_doesS rfl (guard_none rfl) rfl (does_store (vs := [.int .i64 t2297.1]) (cs' := [.int .i64 1, .int .i64 t2297.1, .slice none 0 0, .slice none 0 0]) rfl rfl rfl rfl tsz2 (Ones.int Ones.nil) rfl rfl HM) ?_
              rintro w2310 HM
              refine ops_nil ?_
              refine at_then ?_
              refine run_region rfl ?_
              refine ops_ex rfl (guard_none rfl) rfl rfl (ex_assign rfl rfl) ?_
              refine ops_nil ?_
              replace HM := HM.front 2 rfl rfl
              replace HM := HM.front 2 rfl rfl
              exact at_mid (ρ' := [(0, .string x0), (2, .pointer (some ⟨b2238, 0, none⟩)), (4, u2244), (5, .pointer (some ⟨b2247, 0, none⟩)), (6, .int .i64 2)]) ⟨_, _, _, (Option.some.inj ho2284), rfl, HM⟩ (Sub.cons rfl (Sub.cons rfl (Sub.cons rfl (Sub.cons rfl (Sub.cons rfl Sub.nil)))))
      · replace ho2284 := cond_f hb2290 ho2284
        refine run_seq ?_
        obtain ⟨e2311, ho2284⟩ := chk_some ho2284
        refine run_region rfl ?_
        refine ops_ex rfl (guard_none rfl) rfl rfl (ex_move rfl rfl) ?_
        refine ops_ex rfl (guard_none rfl) rfl rfl (ex_indexAddr (d := kStr) rfl rfl rfl Tryz.underlying36 tsz9 (HM.own_rd 1 rfl) (idx_lo e2311) (idx_hi e2311)) ?_
        refine ops_ex rfl (guard_none rfl) rfl rfl (ex_load1 rfl rfl Tryz.underlying9 rfl ((rd_plain (HM.own_rd 1 rfl) e2311) 0 _ rfl)) ?_
        refine ops_ex rfl (guard_none rfl) rfl rfl (ex_sneq rfl rfl rfl) ?_
        refine ops_nil ?_
        refine at_then ?_
        refine run_cond (b := (!sEq (gt t2242 (0 : Int)) (⟨#[112, 97, 121]⟩ : ByteArray))) rfl (fun hb2312 => ?_) (fun hb2312 => ?_)
        · replace ho2284 := cond_t hb2312 ho2284
          refine run_seq ?_
          refine run_region rfl ?_
          refine ops_ex rfl (guard_none rfl) rfl rfl (ex_loadN (cs := [(.int .i64 0), (.int .i64 0), (.slice none 0 0), (.slice none 0 0)]) rfl rfl Tryz.underlying25 rfl tsz25 rfl ((HM.box_at 2 rfl).sub 0 4 rfl)) ?_
          refine ops_doesS rfl (guard_none rfl) rfl (does_store (vs := [.int .i64 0, .int .i64 0, .slice none 0 0, .slice none 0 0]) (cs' := [.int .i64 0, .int .i64 0, .slice none 0 0, .slice none 0 0]) rfl rfl rfl rfl tsz25 (Ones.int (Ones.int (Ones.sl (Ones.sl Ones.nil)))) rfl rfl HM) ?_
          rintro w2313 HM
          refine ops_ex rfl (guard_none rfl) rfl rfl (ex_assign rfl rfl) ?_
          refine ops_nil ?_
          refine at_then ?_
          refine run_ret ?_
          refine at_then_ret ?_
          replace HM := HM.empty kRef 60 none
          replace HM := HM.empty kOut 49 none
          replace HM := (HM.front 3 rfl rfl).drop
          replace HM := (HM.front 3 rfl rfl).drop
          replace HM := HM.front 1 rfl rfl
          replace HM := HM.front 2 rfl rfl
          have hcb0 := HM.box_at 0 rfl
          replace HM := (HM.front 0 rfl rfl).drop
          have hR := Option.some.inj ho2284
          subst hR
          have hT := thn_inl H
          have hR := Option.some.inj hT
          subst hR
          exact at_retN1 rfl rfl rfl Tryz.underlying25 rfl tsz25 rfl hcb0 ⟨_, rfl, _, _, rfl, HM⟩
        · replace ho2284 := cond_f hb2312 ho2284
          refine run_skip ?_
          exact at_mid (ρ' := [(0, .string x0), (2, .pointer (some ⟨b2238, 0, none⟩)), (4, u2244), (5, .pointer (some ⟨b2247, 0, none⟩)), (6, .int .i64 1)]) ⟨_, _, _, (Option.some.inj ho2284), rfl, HM⟩ (Sub.cons rfl (Sub.cons rfl (Sub.cons rfl (Sub.cons rfl (Sub.cons rfl Sub.nil)))))
  · rintro _ w2316 ⟨a2280, a2281, a2282, rfl, rfl, HM⟩
    replace H := cur3_mk (thn_inr H)
    refine run_seq ?_
    refine run_seq ?_
    refine run_region rfl ?_
    refine ops_ex rfl (guard_none rfl) rfl rfl (ex_move rfl rfl) ?_
    refine ops_ex rfl (guard_none rfl) rfl rfl (ex_len (d := kStr) (xs := t2242) rfl rfl Tryz.underlying36 (HM.own_rd 1 rfl)) ?_
    refine ops_ex rfl (guard_none rfl) rfl rfl (ex_move rfl rfl) ?_
    refine ops_ex rfl (guard_none rfl) rfl rfl (ex_add rfl rfl rfl) ?_
    refine ops_ex rfl (guard_none rfl) rfl rfl (ex_lss rfl rfl rfl) ?_
    refine ops_nil ?_
    refine at_then ?_
    refine run_cond (b := (decide ((t2242.length : Int) < (wrap64 (a2282 + 2))))) rfl (fun hb2318 => ?_) (fun hb2318 => ?_)
    · replace H := cond_t hb2318 H
      refine run_seq ?_
      refine run_region rfl ?_
      refine ops_ex rfl (guard_none rfl) rfl rfl (ex_loadN (cs := [(.int .i64 a2280), (.int .i64 a2281), (.slice none 0 0), (.slice none 0 0)]) rfl rfl Tryz.underlying25 rfl tsz25 rfl ((HM.box_at 2 rfl).sub 0 4 rfl)) ?_
      refine ops_doesS rfl (guard_none rfl) rfl (does_store (vs := [.int .i64 a2280, .int .i64 a2281, .slice none 0 0, .slice none 0 0]) (cs' := [.int .i64 a2280, .int .i64 a2281, .slice none 0 0, .slice none 0 0]) rfl rfl rfl rfl tsz25 (Ones.int (Ones.int (Ones.sl (Ones.sl Ones.nil)))) rfl rfl HM) ?_
      rintro w2319 HM
      refine ops_ex rfl (guard_none rfl) rfl rfl (ex_assign rfl rfl) ?_
      refine ops_nil ?_
      refine at_then ?_
      refine run_ret ?_
      refine at_then_ret ?_
      replace HM := HM.empty kRef 60 none
      replace HM := HM.empty kOut 49 none
      replace HM := (HM.front 3 rfl rfl).drop
      replace HM := (HM.front 3 rfl rfl).drop
      replace HM := HM.front 1 rfl rfl
      replace HM := HM.front 2 rfl rfl
      have hcb0 := HM.box_at 0 rfl
      replace HM := (HM.front 0 rfl rfl).drop
      have hR := Option.some.inj H
      subst hR
      exact at_retN1 rfl rfl rfl Tryz.underlying25 rfl tsz25 rfl hcb0 ⟨_, rfl, _, _, rfl, HM⟩
    · replace H := cond_f hb2318 H
      refine run_skip ?_
      refine at_then ?_
      refine run_seq ?_
      obtain ⟨e2322, H⟩ := chk_some H
      obtain ⟨t2323, h2324, H⟩ := bind_some H
      refine run_region rfl ?_
      refine ops_ex rfl (guard_none rfl) rfl rfl (ex_move rfl rfl) ?_
      refine ops_ex rfl (guard_none rfl) rfl rfl (ex_move rfl rfl) ?_
      refine ops_ex rfl (guard_none rfl) rfl rfl (ex_indexAddr (d := kStr) rfl rfl rfl Tryz.underlying36 tsz9 (HM.own_rd 1 rfl) (idx_lo e2322) (idx_hi e2322)) ?_
      refine ops_ex rfl (guard_none rfl) rfl rfl (ex_load1 rfl rfl Tryz.underlying9 rfl ((rd_plain (HM.own_rd 1 rfl) e2322) 0 _ rfl)) ?_
      refine ops_does rfl (guard_none rfl) rfl rfl (does_callk rfl callok16 rfl (spec_l3Ins.calls (x0 := (gt t2242 a2282)) h2324)) ?_
      rintro _ w2327 ⟨u2325, rfl, hn⟩
      replace HM : Mem w [] w2327 [own kRef 60 u2325 t2323.1, box b2238 25 [.int .i64 0, .int .i64 0, .slice none 0 0, .slice none 0 0], own kStr 9 u2244 t2242, box b2247 25 [.int .i64 a2280, .int .i64 a2281, .slice none 0 0, .slice none 0 0]] := HM.call hn
      refine ops_ex rfl (guard_none rfl) rfl rfl (ex_move rfl rfl) ?_
      refine ops_ex rfl (guard_none rfl) rfl rfl (ex_extract rfl rfl rfl) ?_
      refine ops_ex rfl (guard_none rfl) rfl rfl (ex_extract rfl rfl rfl) ?_
      refine ops_ex rfl (guard_none rfl) rfl rfl (ex_assign rfl rfl) ?_
      refine ops_ex rfl (guard_none rfl) rfl rfl (ex_assign rfl rfl) ?_
      refine ops_nil ?_
      refine at_then ?_
      refine run_seq ?_
      refine run_region rfl ?_
      refine ops_ex rfl (guard_none rfl) rfl rfl (ex_move rfl rfl) ?_
      refine ops_ex rfl (guard_none rfl) rfl rfl (ex_fieldAddr (off' := 2) rfl rfl Tryz.underlying25 rfl tsz22 rfl) ?_
      replace HM := HM.front 3 rfl rfl
      refine ops_doesS rfl (guard_none rfl) rfl (does_store (vs := [u2325]) (cs' := [.int .i64 a2280, .int .i64 a2281, u2325, .slice none 0 0]) rfl rfl rfl (rd_cells (HM.own_rd 1 rfl)) tsz22 (Ones.rd (HM.own_rd 1 rfl) Ones.nil) rfl rfl HM) ?_
      rintro w2328 HM
      refine ops_nil ?_
      refine at_then ?_
      obtain ⟨o2419, ho2420, H⟩ := bind_some H
      refine run_mid (fun ρ_ w_ => ∃ v2415 : Value, ∃ a2416 : List Out, ∃ a2418 : Bool, Sum.inr (a2416, a2418) = o2419 ∧ ρ_ = [(0, .string x0), (2, .pointer (some ⟨b2238, 0, none⟩)), (5, .pointer (some ⟨b2247, 0, none⟩)), (10, .bool a2418)] ∧ Mem w [] w_ [box b2238 25 [.int .i64 0, .int .i64 0, .slice none 0 0, .slice none 0 0], box b2247 25 [.int .i64 a2280, .int .i64 a2281, u2325, v2415], own kRef 60 u2325 t2323.1, own kOut 49 v2415 a2416]) ?_ ?_
      · skip
        refine run_seq ?_
        refine run_region rfl ?_
        refine ops_ex rfl (guard_none rfl) rfl rfl (ex_move rfl rfl) ?_
        refine ops_ex rfl (guard_none rfl) rfl rfl (ex_add rfl rfl rfl) ?_
        refine ops_ex rfl (guard_none rfl) rfl rfl (ex_assign rfl rfl) ?_
        refine ops_nil ?_
        refine at_then ?_
        refine run_block ?_
        replace HM := HM.empty kOut 49 none
        replace HM := HM.front 2 rfl rfl
        replace HM := HM.front 2 rfl rfl
        replace HM := HM.front 4 rfl rfl
        replace HM := HM.front 4 rfl rfl
        refine run_loop (fun k_ ρ_ w_ => ∃ v2448 : Value, ∃ a2449 : List Out, ∃ a2451 : Bool, ∃ a2452 : Int, spec_l3Parse.l0 t2242 a2280 a2281 t2323 k_ a2449 a2451 a2452 = some o2419 ∧ ρ_ = [(0, .string x0), (2, .pointer (some ⟨b2238, 0, none⟩)), (4, u2244), (5, .pointer (some ⟨b2247, 0, none⟩)), (10, .bool a2451), (11, .int .i64 a2452)] ∧ Mem w [] w_ [box b2238 25 [.int .i64 0, .int .i64 0, .slice none 0 0, .slice none 0 0], own kStr 9 u2244 t2242, box b2247 25 [.int .i64 a2280, .int .i64 a2281, u2325, v2448], own kRef 60 u2325 t2323.1, own kOut 49 v2448 a2449]) k (ρ1 := [(0, .string x0), (2, .pointer (some ⟨b2238, 0, none⟩)), (4, u2244), (5, .pointer (some ⟨b2247, 0, none⟩)), (10, .bool t2323.2), (11, .int .i64 (wrap64 (a2282 + 1)))]) ⟨_, _, _, _, ho2420, rfl, HM⟩ (Sub.cons rfl (Sub.cons rfl (Sub.cons rfl (Sub.cons rfl (Sub.cons rfl (Sub.cons rfl Sub.nil)))))) ?_
        clear HM ho2420
        rintro k2481 _ w2482 ⟨v2448, a2449, a2451, a2452, ho2420, rfl, HM⟩
        obtain _ | k2481 := k2481
        · exact nomatch ((spec_l3Parse.l0_z t2242 a2280 a2281 t2323 a2449 a2451 a2452).symm.trans ho2420)
        replace ho2420 := (spec_l3Parse.l0_s t2242 a2280 a2281 t2323 k2481 a2449 a2451 a2452).symm.trans ho2420
        refine run_seq ?_
        refine run_seq ?_
        refine run_meet (fun ρ_ w_ => ρ_ = [(0, .string x0), (2, .pointer (some ⟨b2238, 0, none⟩)), (4, u2244), (5, .pointer (some ⟨b2247, 0, none⟩)), (10, .bool a2451), (11, .int .i64 a2452), (81, .bool ((decide (a2452 < (t2242.length : Int))) && a2451))] ∧ Mem w [] w_ [box b2238 25 [.int .i64 0, .int .i64 0, .slice none 0 0, .slice none 0 0], own kStr 9 u2244 t2242, box b2247 25 [.int .i64 a2280, .int .i64 a2281, u2325, v2448], own kRef 60 u2325 t2323.1, own kOut 49 v2448 a2449]) ?_ ?_
        · skip
          refine run_region rfl ?_
          refine ops_ex rfl (guard_none rfl) rfl rfl (ex_move rfl rfl) ?_
          refine ops_ex rfl (guard_none rfl) rfl rfl (ex_move rfl rfl) ?_
          refine ops_ex rfl (guard_none rfl) rfl rfl (ex_len (d := kStr) (xs := t2242) rfl rfl Tryz.underlying36 (HM.own_rd 1 rfl)) ?_
          refine ops_ex rfl (guard_none rfl) rfl rfl (ex_lss rfl rfl rfl) ?_
          refine ops_ex rfl (guard_none rfl) rfl rfl (ex_move rfl rfl) ?_
          refine bool_cases (decide (a2452 < (t2242.length : Int))) (fun hg2483 => ?_) (fun hg2483 => ?_)
          · skip
            refine ops_ex rfl (guard_on rfl rfl rfl hg2483) rfl rfl (ex_move rfl rfl) ?_
            refine ops_ex (v := .bool ((decide (a2452 < (t2242.length : Int))) && a2451)) rfl (guard_none rfl) rfl rfl (ex_pand_t rfl rfl hg2483 rfl) ?_
            refine ops_nil ?_
            exact at_meet [(0, .string x0), (2, .pointer (some ⟨b2238, 0, none⟩)), (4, u2244), (5, .pointer (some ⟨b2247, 0, none⟩)), (10, .bool a2451), (11, .int .i64 a2452), (81, .bool ((decide (a2452 < (t2242.length : Int))) && a2451))] ⟨rfl, HM⟩ (Sub.cons rfl (Sub.cons rfl (Sub.cons rfl (Sub.cons rfl (Sub.cons rfl (Sub.cons rfl (Sub.cons rfl Sub.nil)))))))
          · skip
            refine ops_off rfl (guard_off rfl rfl rfl hg2483) rfl rfl ?_
            have hg2484 : ((decide (a2452 < (t2242.length : Int))) && a2451) = false := by simp only [hg2483, Bool.and_true, Bool.true_and, Bool.and_false, Bool.false_and, Bool.or_true, Bool.true_or, Bool.or_false, Bool.false_or, Bool.not_true, Bool.not_false, Bool.not_not]
            refine ops_ex (v := .bool ((decide (a2452 < (t2242.length : Int))) && a2451)) rfl (guard_none rfl) rfl rfl (ex_pand_f rfl rfl hg2483) ?_
            refine ops_nil ?_
            exact at_meet [(0, .string x0), (2, .pointer (some ⟨b2238, 0, none⟩)), (4, u2244), (5, .pointer (some ⟨b2247, 0, none⟩)), (10, .bool a2451), (11, .int .i64 a2452), (81, .bool ((decide (a2452 < (t2242.length : Int))) && a2451))] ⟨rfl, HM⟩ (Sub.cons rfl (Sub.cons rfl (Sub.cons rfl (Sub.cons rfl (Sub.cons rfl (Sub.cons rfl (Sub.cons rfl Sub.nil)))))))
        · rintro _ w2485 ⟨rfl, HM⟩
          refine at_then ?_
          refine run_cond (b := ((decide (a2452 < (t2242.length : Int))) && a2451)) rfl (fun hb2486 => ?_) (fun hb2486 => ?_)
          · replace ho2420 := cond_t hb2486 ho2420
            refine run_skip ?_
            refine at_then ?_
            refine run_seq ?_
            refine run_block ?_
            refine run_seq ?_
            obtain ⟨e2487, ho2420⟩ := chk_some ho2420
            obtain ⟨t2488, h2489, ho2420⟩ := bind_some ho2420
            refine run_region rfl ?_
            refine ops_ex rfl (guard_none rfl) rfl rfl (ex_move rfl rfl) ?_
            refine ops_ex rfl (guard_none rfl) rfl rfl (ex_move rfl rfl) ?_
            refine ops_ex rfl (guard_none rfl) rfl rfl (ex_indexAddr (d := kStr) rfl rfl rfl Tryz.underlying36 tsz9 (HM.own_rd 1 rfl) (idx_lo e2487) (idx_hi e2487)) ?_
            refine ops_ex rfl (guard_none rfl) rfl rfl (ex_load1 rfl rfl Tryz.underlying9 rfl ((rd_plain (HM.own_rd 1 rfl) e2487) 0 _ rfl)) ?_
            refine ops_does rfl (guard_none rfl) rfl rfl (does_callk rfl callok14 rfl (spec_l2Cut.calls (x0 := (gt t2242 a2452)) (x1 := 61) h2489)) ?_
            rintro u2490 w2492 ⟨_, rfl, hn⟩
            replace HM : Mem w [] w2492 [own kStr 9 u2490 t2488, box b2238 25 [.int .i64 0, .int .i64 0, .slice none 0 0, .slice none 0 0], own kStr 9 u2244 t2242, box b2247 25 [.int .i64 a2280, .int .i64 a2281, u2325, v2448], own kRef 60 u2325 t2323.1, own kOut 49 v2448 a2449] := HM.call hn
            refine ops_ex rfl (guard_none rfl) rfl rfl (ex_assign rfl rfl) ?_
            refine ops_nil ?_
            refine at_then ?_
            refine run_seq ?_
            refine run_seq ?_
            refine run_region rfl ?_
            refine ops_ex rfl (guard_none rfl) rfl rfl (ex_move rfl rfl) ?_
            refine ops_ex rfl (guard_none rfl) rfl rfl (ex_len (d := kStr) (xs := t2488) rfl rfl Tryz.underlying36 (HM.own_rd 0 rfl)) ?_
            refine ops_ex rfl (guard_none rfl) rfl rfl (ex_neq rfl rfl rfl) ?_
            refine ops_nil ?_
            refine at_then ?_
            refine run_cond (b := ((t2488.length : Int) != 2)) rfl (fun hb2494 => ?_) (fun hb2494 => ?_)
            · replace ho2420 := cond_t hb2494 ho2420
              refine run_seq ?_
              refine run_region rfl ?_
              refine ops_ex rfl (guard_none rfl) rfl rfl (ex_loadN (cs := [(.int .i64 a2280), (.int .i64 a2281), u2325, v2448]) rfl rfl Tryz.underlying25 rfl tsz25 rfl ((HM.box_at 3 rfl).sub 0 4 rfl)) ?_
              replace HM := HM.front 1 rfl rfl
              refine ops_doesS rfl (guard_none rfl) rfl (does_store (vs := [.int .i64 a2280, .int .i64 a2281, u2325, v2448]) (cs' := [.int .i64 a2280, .int .i64 a2281, u2325, v2448]) rfl rfl rfl rfl tsz25 (Ones.int (Ones.int (Ones.rd (HM.own_rd 4 rfl) (Ones.rd (HM.own_rd 5 rfl) Ones.nil)))) rfl rfl HM) ?_
              rintro w2495 HM
              refine ops_ex rfl (guard_none rfl) rfl rfl (ex_assign rfl rfl) ?_
              refine ops_nil ?_
              refine at_then ?_
              refine run_ret ?_
              refine at_then_ret ?_
              refine at_block_ret ?_
              refine at_then_ret ?_
              refine at_then_ret ?_
              refine at_block_ret ?_
              refine at_then_ret ?_
              replace HM := (HM.front 1 rfl rfl).drop
              replace HM := (HM.front 1 rfl rfl).drop
              replace HM := (HM.front 1 rfl rfl).drop
              have hcb0 := HM.box_at 0 rfl
              replace HM := (HM.front 0 rfl rfl).drop
              have hR := Option.some.inj ho2420
              subst hR
              have hT := thn_inl H
              have hR := Option.some.inj hT
              subst hR
              exact at_retN1 rfl rfl rfl Tryz.underlying25 rfl tsz25 rfl hcb0 ⟨_, rfl, _, _, rfl, HM⟩
            · replace ho2420 := cond_f hb2494 ho2420
              refine run_skip ?_
              refine at_then ?_
              refine run_seq ?_
              obtain ⟨e2496, ho2420⟩ := chk_some ho2420
              obtain ⟨t2497, h2498, ho2420⟩ := bind_some ho2420
              refine run_region rfl ?_
              refine ops_ex rfl (guard_none rfl) rfl rfl (ex_move rfl rfl) ?_
              refine ops_ex rfl (guard_none rfl) rfl rfl (ex_indexAddr (d := kStr) rfl rfl rfl Tryz.underlying36 tsz9 (HM.own_rd 0 rfl) (idx_lo e2496) (idx_hi e2496)) ?_
              refine ops_ex rfl (guard_none rfl) rfl rfl (ex_load1 rfl rfl Tryz.underlying9 rfl ((rd_plain (HM.own_rd 0 rfl) e2496) 0 _ rfl)) ?_
              refine ops_does rfl (guard_none rfl) rfl rfl (does_callk rfl callok15 rfl (spec_l2Number.calls (x0 := (gt t2488 (0 : Int))) (x1 := 7) h2498)) ?_
              rintro _ w2499 ⟨rfl, hn⟩
              replace HM : Mem w [] w2499 [own kStr 9 u2490 t2488, box b2238 25 [.int .i64 0, .int .i64 0, .slice none 0 0, .slice none 0 0], own kStr 9 u2244 t2242, box b2247 25 [.int .i64 a2280, .int .i64 a2281, u2325, v2448], own kRef 60 u2325 t2323.1, own kOut 49 v2448 a2449] := HM.call hn
              refine ops_ex rfl (guard_none rfl) rfl rfl (ex_move rfl rfl) ?_
              refine ops_ex rfl (guard_none rfl) rfl rfl (ex_extract rfl rfl rfl) ?_
              refine ops_ex rfl (guard_none rfl) rfl rfl (ex_extract rfl rfl rfl) ?_
              refine ops_ex rfl (guard_none rfl) rfl rfl (ex_assign rfl rfl) ?_
              refine ops_ex rfl (guard_none rfl) rfl rfl (ex_assign rfl rfl) ?_
              refine ops_nil ?_
              refine at_then ?_
              refine run_seq ?_
              obtain ⟨e2500, ho2420⟩ := chk_some ho2420
              obtain ⟨t2501, h2502, ho2420⟩ := bind_some ho2420
              obtain ⟨t2503, h2504, ho2420⟩ := bind_some ho2420
              refine run_region rfl ?_
              refine ops_ex rfl (guard_none rfl) rfl rfl (ex_move rfl rfl) ?_
              refine ops_ex rfl (guard_none rfl) rfl rfl (ex_indexAddr (d := kStr) rfl rfl rfl Tryz.underlying36 tsz9 (HM.own_rd 0 rfl) (idx_lo e2500) (idx_hi e2500)) ?_
              refine ops_ex rfl (guard_none rfl) rfl rfl (ex_load1 rfl rfl Tryz.underlying9 rfl ((rd_plain (HM.own_rd 0 rfl) e2500) 0 _ rfl)) ?_
              refine ops_does rfl (guard_none rfl) rfl rfl (does_callk rfl callok18 rfl (spec_l3Swap.calls (x0 := (gt t2488 (1 : Int))) (x1 := 95) (x2 := 32) h2502)) ?_
              rintro _ w2510 ⟨rfl, hn⟩
              replace HM : Mem w [] w2510 [own kStr 9 u2490 t2488, box b2238 25 [.int .i64 0, .int .i64 0, .slice none 0 0, .slice none 0 0], own kStr 9 u2244 t2242, box b2247 25 [.int .i64 a2280, .int .i64 a2281, u2325, v2448], own kRef 60 u2325 t2323.1, own kOut 49 v2448 a2449] := HM.call hn
              refine ops_does rfl (guard_none rfl) rfl rfl (does_callk rfl callok17 rfl (spec_l2Parse.calls (x0 := t2501) h2504)) ?_
              rintro _ w2511 ⟨u2505, rfl, hn⟩
              replace HM : Mem w [] w2511 [own kInt 2 u2505 t2503.1.fKeys, own kStr 9 u2490 t2488, box b2238 25 [.int .i64 0, .int .i64 0, .slice none 0 0, .slice none 0 0], own kStr 9 u2244 t2242, box b2247 25 [.int .i64 a2280, .int .i64 a2281, u2325, v2448], own kRef 60 u2325 t2323.1, own kOut 49 v2448 a2449] := HM.call hn
              refine ops_ex rfl (guard_none rfl) rfl rfl (ex_move rfl rfl) ?_
              refine ops_ex rfl (guard_none rfl) rfl rfl (ex_extract rfl rfl rfl) ?_
              refine ops_ex rfl (guard_none rfl) rfl rfl (ex_extract rfl rfl rfl) ?_
              refine ops_does rfl (guard_none rfl) rfl rfl (does_alloc (cs := [.slice none 0 0, .int .i64 0, .int .i64 0]) rfl tz44 rfl HM) ?_
              rintro _ w2512 ⟨b2507, rfl, HM⟩
              refine ops_doesS rfl (guard_none rfl) rfl (does_store (vs := [u2505, .int .i64 t2503.1.fNeed, .int .i64 t2503.1.fAfter]) (cs' := [u2505, .int .i64 t2503.1.fNeed, .int .i64 t2503.1.fAfter]) rfl rfl rfl rfl tsz44 (Ones.rd (HM.own_rd 1 rfl) (Ones.int (Ones.int Ones.nil))) rfl rfl HM) ?_
              rintro w2513 HM
              refine ops_ex rfl (guard_none rfl) rfl rfl (ex_assign rfl rfl) ?_
              refine ops_nil ?_
              refine at_then ?_
              refine run_seq ?_
              refine run_meet (fun ρ_ w_ => ρ_ = [(0, .string x0), (2, .pointer (some ⟨b2238, 0, none⟩)), (4, u2244), (5, .pointer (some ⟨b2247, 0, none⟩)), (10, .bool (t2497.2 && t2503.2)), (11, .int .i64 a2452), (13, .int .i64 t2497.1), (15, .pointer (some ⟨b2507, 0, none⟩))] ∧ Mem w [] w_ [box b2238 25 [.int .i64 0, .int .i64 0, .slice none 0 0, .slice none 0 0], own kStr 9 u2244 t2242, box b2247 25 [.int .i64 a2280, .int .i64 a2281, u2325, v2448], own kRef 60 u2325 t2323.1, own kOut 49 v2448 a2449, box b2507 44 [u2505, .int .i64 t2503.1.fNeed, .int .i64 t2503.1.fAfter], own kInt 2 u2505 t2503.1.fKeys]) ?_ ?_
              · skip
                refine run_region rfl ?_
                refine ops_ex rfl (guard_none rfl) rfl rfl (ex_move rfl rfl) ?_
                refine ops_ex rfl (guard_none rfl) rfl rfl (ex_move rfl rfl) ?_
                refine bool_cases t2497.2 (fun hg2514 => ?_) (fun hg2514 => ?_)
                · skip
                  refine ops_ex rfl (guard_on rfl rfl rfl hg2514) rfl rfl (ex_move rfl rfl) ?_
                  refine ops_ex (v := .bool (t2497.2 && t2503.2)) rfl (guard_none rfl) rfl rfl (ex_pand_t rfl rfl hg2514 rfl) ?_
                  refine ops_ex rfl (guard_none rfl) rfl rfl (ex_assign rfl rfl) ?_
                  refine ops_nil ?_
                  replace HM := (HM.front 2 rfl rfl).drop
                  replace HM := HM.front 1 rfl rfl
                  replace HM := HM.front 1 rfl rfl
                  replace HM := HM.front 6 rfl rfl
                  replace HM := HM.front 6 rfl rfl
                  replace HM := HM.front 6 rfl rfl
                  replace HM := HM.front 6 rfl rfl
                  replace HM := HM.front 6 rfl rfl
                  exact at_meet [(0, .string x0), (2, .pointer (some ⟨b2238, 0, none⟩)), (4, u2244), (5, .pointer (some ⟨b2247, 0, none⟩)), (10, .bool (t2497.2 && t2503.2)), (11, .int .i64 a2452), (13, .int .i64 t2497.1), (15, .pointer (some ⟨b2507, 0, none⟩))] ⟨rfl, HM⟩ (Sub.cons rfl (Sub.cons rfl (Sub.cons rfl (Sub.cons rfl (Sub.cons rfl (Sub.cons rfl (Sub.cons rfl (Sub.cons rfl Sub.nil))))))))
                · skip
                  refine ops_off rfl (guard_off rfl rfl rfl hg2514) rfl rfl ?_
                  have hg2515 : (t2497.2 && t2503.2) = false := by simp only [hg2514, Bool.and_true, Bool.true_and, Bool.and_false, Bool.false_and, Bool.or_true, Bool.true_or, Bool.or_false, Bool.false_or, Bool.not_true, Bool.not_false, Bool.not_not]
                  refine ops_ex (v := .bool (t2497.2 && t2503.2)) rfl (guard_none rfl) rfl rfl (ex_pand_f rfl rfl hg2514) ?_
                  refine ops_ex rfl (guard_none rfl) rfl rfl (ex_assign rfl rfl) ?_
                  refine ops_nil ?_
                  replace HM := (HM.front 2 rfl rfl).drop
                  replace HM := HM.front 1 rfl rfl
                  replace HM := HM.front 1 rfl rfl
                  replace HM := HM.front 6 rfl rfl
                  replace HM := HM.front 6 rfl rfl
                  replace HM := HM.front 6 rfl rfl
                  replace HM := HM.front 6 rfl rfl
                  replace HM := HM.front 6 rfl rfl
                  exact at_meet [(0, .string x0), (2, .pointer (some ⟨b2238, 0, none⟩)), (4, u2244), (5, .pointer (some ⟨b2247, 0, none⟩)), (10, .bool (t2497.2 && t2503.2)), (11, .int .i64 a2452), (13, .int .i64 t2497.1), (15, .pointer (some ⟨b2507, 0, none⟩))] ⟨rfl, HM⟩ (Sub.cons rfl (Sub.cons rfl (Sub.cons rfl (Sub.cons rfl (Sub.cons rfl (Sub.cons rfl (Sub.cons rfl (Sub.cons rfl Sub.nil))))))))
              · rintro _ w2516 ⟨rfl, HM⟩
                refine at_then ?_
                obtain ⟨e2520, ho2420⟩ := chk_some ho2420
                refine run_region rfl ?_
                refine ops_ex rfl (guard_none rfl) rfl rfl (ex_fieldAddr (off' := 3) rfl rfl Tryz.underlying25 rfl tsz23 rfl) ?_
                refine ops_ex rfl (guard_none rfl) rfl rfl (ex_load1 rfl rfl Tryz.underlying23 rfl ((HM.box_at 2 rfl) 3 _ rfl)) ?_
                refine ops_ex rfl (guard_none rfl) rfl rfl (ex_move rfl rfl) ?_
                refine ops_ex rfl (guard_none rfl) rfl rfl (ex_loadN (cs := [u2505, (.int .i64 t2503.1.fNeed), (.int .i64 t2503.1.fAfter)]) rfl rfl Tryz.underlying44 rfl tsz44 rfl ((HM.box_at 5 rfl).sub 0 3 rfl)) ?_
                refine ops_ex rfl (guard_none rfl) rfl rfl (ex_build1 (fun u2505 => [(0, .int .i64 t2497.1), (1, .agg #[u2505, (.int .i64 t2503.1.fNeed), (.int .i64 t2503.1.fAfter)])]) (fun u2505 => #[.int .i64 t2497.1, u2505, .int .i64 t2503.1.fNeed, .int .i64 t2503.1.fAfter]) rfl rfl (fun _ _ _ => by kernel_rfl) (HM.own_rd 6 rfl).isSl) ?_
                replace HM := HM.front 6 rfl rfl
                refine ops_does rfl (guard_none rfl) rfl rfl (does_lit (e := 49) (cs := [(.int .i64 t2497.1), u2505, (.int .i64 t2503.1.fNeed), (.int .i64 t2503.1.fAfter)]) (xs := ([(⟨t2497.1, (⟨t2503.1.fKeys, t2503.1.fNeed, t2503.1.fAfter⟩ : Rule)⟩ : Out)] : List Out)) kOut rfl rfl (fun _ => by kernel_rfl) rfl rfl (fun _ _ h => by have := Elems.cons (d := kOut) (x := (⟨t2497.1, (⟨t2503.1.fKeys, t2503.1.fNeed, t2503.1.fAfter⟩ : Rule)⟩ : Out)) ⟨_, rfl, h⟩ .nil; rw [List.append_nil, List.append_nil] at this; exact this) HM) ?_
                rintro v2517 w2523 HM
                replace HM := HM.front 5 rfl rfl
                refine ops_does rfl (guard_none rfl) rfl rfl (does_append kOut rfl rfl rfl Tryz.underlying23 tsz49 rfl tby49 tz49 rfl rfl (leB_le e2520) HM) ?_
                rintro v2521 w2524 HM
                refine ops_ex rfl (guard_none rfl) rfl rfl (ex_fieldAddr (off' := 3) rfl rfl Tryz.underlying25 rfl tsz23 rfl) ?_
                replace HM := HM.front 3 rfl rfl
                refine ops_doesS rfl (guard_none rfl) rfl (does_store (vs := [v2521]) (cs' := [.int .i64 a2280, .int .i64 a2281, u2325, v2521]) rfl rfl rfl (rd_cells (HM.own_rd 1 rfl)) tsz23 (Ones.rd (HM.own_rd 1 rfl) Ones.nil) rfl rfl HM) ?_
                rintro w2525 HM
                refine ops_nil ?_
                refine at_block ?_
                refine at_then ?_
                refine run_region rfl ?_
                refine ops_ex rfl (guard_none rfl) rfl rfl (ex_move rfl rfl) ?_
                refine ops_ex rfl (guard_none rfl) rfl rfl (ex_add rfl rfl rfl) ?_
                refine ops_ex rfl (guard_none rfl) rfl rfl (ex_assign rfl rfl) ?_
                refine ops_nil ?_
                replace HM := (HM.front 5 rfl rfl).drop
                replace HM := HM.front 1 rfl rfl
                replace HM := HM.front 4 rfl rfl
                replace HM := HM.front 2 rfl rfl
                replace HM := HM.front 4 rfl rfl
                replace HM := HM.front 4 rfl rfl
                exact at_again k2481 (ρ1 := [(0, .string x0), (2, .pointer (some ⟨b2238, 0, none⟩)), (4, u2244), (5, .pointer (some ⟨b2247, 0, none⟩)), (10, .bool (t2497.2 && t2503.2)), (11, .int .i64 (wrap64 (a2452 + 1)))]) (Nat.lt_succ_self _) ⟨_, _, _, _, ho2420, rfl, HM⟩ (Sub.cons rfl (Sub.cons rfl (Sub.cons rfl (Sub.cons rfl (Sub.cons rfl (Sub.cons rfl Sub.nil))))))
          · replace ho2420 := cond_f hb2486 ho2420
            refine run_exit ?_
            refine at_then_exit ?_
            refine at_then_exit ?_
            refine at_block_exit ?_
            replace HM := (HM.front 1 rfl rfl).drop
            exact at_mid (ρ' := [(0, .string x0), (2, .pointer (some ⟨b2238, 0, none⟩)), (5, .pointer (some ⟨b2247, 0, none⟩)), (10, .bool a2451)]) ⟨_, _, _, (Option.some.inj ho2420), rfl, HM⟩ (Sub.cons rfl (Sub.cons rfl (Sub.cons rfl (Sub.cons rfl Sub.nil))))
      · rintro _ w2526 ⟨v2415, a2416, a2418, rfl, rfl, HM⟩
        replace H := cur2_mk (thn_inr H)
        refine run_seq ?_
        obtain ⟨t2527, h2528, H⟩ := bind_some H
        obtain ⟨t2529, h2530, H⟩ := bind_some H
        refine run_meet (fun ρ_ w_ => ρ_ = [(2, .pointer (some ⟨b2238, 0, none⟩)), (3, .bool (((a2418 && (t2527 == 0)) && (sEq t2529 x0)) && (decide ((x0.size : Int) ≤ 300))))] ∧ Mem w [] w_ [box b2238 25 [.int .i64 a2280, .int .i64 a2281, u2325, v2415], own kRef 60 u2325 t2323.1, own kOut 49 v2415 a2416]) ?_ ?_
        · skip
          refine run_drawf (fun w_ => Mem w [] w_ [box b2247 25 [.int .i64 a2280, .int .i64 a2281, u2325, v2415], own kRef 60 u2325 t2323.1, own kOut 49 v2415 a2416]) [(0, true), (1, true), (2, true), (3, false), (4, true), (5, true), (6, true), (8, true), (7, false), (9, true), (10, true), (11, true), (12, true), (13, true), (14, true), (15, true), (16, false), (17, true)] mixed rfl rfl (by kernel_rfl) ?_
          replace HM := HM.grow (fr_drew _)
          have hS := Mem.suf (M := [box b2238 25 [.int .i64 0, .int .i64 0, .slice none 0 0, .slice none 0 0]]) HM
          refine drwp_take rfl (guard_none rfl) rfl rfl (fun w_ hS_ => (ex_loadN (cs := [(.int .i64 a2280), (.int .i64 a2281), u2325, v2415]) rfl rfl Tryz.underlying25 rfl tsz25 rfl ((hS_.box_at 0 rfl).sub 0 4 rfl))) hS ?_
          refine drwp_take rfl (guard_none rfl) rfl rfl (fun w_ hS_ => (ex_move rfl rfl)) hS ?_
          refine drwp_take rfl (guard_none rfl) rfl rfl (fun w_ hS_ => (ex_move rfl rfl)) hS ?_
          refine bool_cases a2418 (fun hg2531 => ?_) (fun hg2531 => ?_)
          · skip
            refine drwp_one rfl (guard_on rfl rfl rfl hg2531) rfl rfl (does_callk rfl callok19 rfl (spec_l3Fault.calls (x0 := (⟨a2280, a2281, t2323.1, a2416⟩ : Tx)) (HM.box_at 1 rfl) (HM.own_rd 2 rfl) (HM.own_rd 3 rfl) (cond_t hg2531 h2528))) ?_
            rintro _ w2532 ⟨rfl, hn⟩
            replace HM : Mem w [] w2532 [box b2238 25 [.int .i64 0, .int .i64 0, .slice none 0 0, .slice none 0 0], box b2247 25 [.int .i64 a2280, .int .i64 a2281, u2325, v2415], own kRef 60 u2325 t2323.1, own kOut 49 v2415 a2416] := HM.call hn
            refine ⟨Mem.suf (M := [box b2238 25 [.int .i64 0, .int .i64 0, .slice none 0 0, .slice none 0 0]]) HM, ?_⟩
            have hS := Mem.suf (M := [box b2238 25 [.int .i64 0, .int .i64 0, .slice none 0 0, .slice none 0 0]]) HM
            refine drwp_take rfl (guard_on rfl rfl rfl hg2531) rfl rfl (fun w_ hS_ => (ex_eql rfl rfl rfl)) hS ?_
            refine drwp_take (v := .bool (a2418 && (t2527 == 0))) rfl (guard_none rfl) rfl rfl (fun w_ hS_ => (ex_pand_t rfl rfl hg2531 rfl)) hS ?_
            refine drwp_take rfl (guard_none rfl) rfl rfl (fun w_ hS_ => (ex_move rfl rfl)) hS ?_
            refine bool_cases (a2418 && (t2527 == 0)) (fun hg2533 => ?_) (fun hg2533 => ?_)
            · skip
              refine drwp_take rfl (guard_on rfl rfl rfl hg2533) rfl rfl (fun w_ hS_ => (ex_move rfl rfl)) hS ?_
              refine drwp_one rfl (guard_on rfl rfl rfl hg2533) rfl rfl (does_callk rfl callok20 rfl (spec_l3Text.calls (x0 := (⟨a2280, a2281, t2323.1, a2416⟩ : Tx)) (HM.box_at 1 rfl) (HM.own_rd 2 rfl) (HM.own_rd 3 rfl) (cond_t hg2533 h2530))) ?_
              rintro _ w2534 ⟨rfl, hn⟩
              replace HM : Mem w [] w2534 [box b2238 25 [.int .i64 0, .int .i64 0, .slice none 0 0, .slice none 0 0], box b2247 25 [.int .i64 a2280, .int .i64 a2281, u2325, v2415], own kRef 60 u2325 t2323.1, own kOut 49 v2415 a2416] := HM.call hn
              refine ⟨Mem.suf (M := [box b2238 25 [.int .i64 0, .int .i64 0, .slice none 0 0, .slice none 0 0]]) HM, ?_⟩
              have hS := Mem.suf (M := [box b2238 25 [.int .i64 0, .int .i64 0, .slice none 0 0, .slice none 0 0]]) HM
              refine drwp_take rfl (guard_on rfl rfl rfl hg2533) rfl rfl (fun w_ hS_ => (ex_seql rfl rfl rfl)) hS ?_
              refine drwp_take (v := .bool ((a2418 && (t2527 == 0)) && (sEq t2529 x0))) rfl (guard_none rfl) rfl rfl (fun w_ hS_ => (ex_pand_t rfl rfl hg2533 rfl)) hS ?_
              refine drwp_take rfl (guard_none rfl) rfl rfl (fun w_ hS_ => (ex_move rfl rfl)) hS ?_
              refine bool_cases ((a2418 && (t2527 == 0)) && (sEq t2529 x0)) (fun hg2535 => ?_) (fun hg2535 => ?_)
              · skip
                refine drwp_take rfl (guard_on rfl rfl rfl hg2535) rfl rfl (fun w_ hS_ => (ex_move rfl rfl)) hS ?_
                refine drwp_take rfl (guard_on rfl rfl rfl hg2535) rfl rfl (fun w_ hS_ => (ex_strlen rfl rfl Tryz.underlying9)) hS ?_
                refine drwp_take rfl (guard_on rfl rfl rfl hg2535) rfl rfl (fun w_ hS_ => (ex_leq rfl rfl rfl)) hS ?_
                refine drwp_take (v := .bool (((a2418 && (t2527 == 0)) && (sEq t2529 x0)) && (decide ((x0.size : Int) ≤ 300)))) rfl (guard_none rfl) rfl rfl (fun w_ hS_ => (ex_pand_t rfl rfl hg2535 rfl)) hS ?_
                refine drwp_oneS rfl (guard_none rfl) rfl (does_store (vs := [.int .i64 a2280, .int .i64 a2281, u2325, v2415]) (cs' := [.int .i64 a2280, .int .i64 a2281, u2325, v2415]) rfl rfl rfl rfl tsz25 (Ones.int (Ones.int (Ones.rd (HM.own_rd 2 rfl) (Ones.rd (HM.own_rd 3 rfl) Ones.nil)))) rfl rfl HM) ?_
                rintro w2536 HM
                refine ⟨Mem.suf (M := [box b2238 25 [.int .i64 a2280, .int .i64 a2281, u2325, v2415]]) HM, ?_⟩
                have hS := Mem.suf (M := [box b2238 25 [.int .i64 a2280, .int .i64 a2281, u2325, v2415]]) HM
                refine drwp_take rfl (guard_none rfl) rfl rfl (fun w_ hS_ => (ex_assign rfl rfl)) hS ?_
                refine drwp_done ?_
                replace HM := (HM.front 1 rfl rfl).drop
                exact at_meet [(2, .pointer (some ⟨b2238, 0, none⟩)), (3, .bool (((a2418 && (t2527 == 0)) && (sEq t2529 x0)) && (decide ((x0.size : Int) ≤ 300))))] ⟨rfl, HM⟩ (Sub.cons rfl (Sub.cons rfl Sub.nil))
              · skip
                refine drwp_off rfl (guard_off rfl rfl rfl hg2535) rfl rfl hS ?_
                refine drwp_off rfl (guard_off rfl rfl rfl hg2535) rfl rfl hS ?_
                refine drwp_off rfl (guard_off rfl rfl rfl hg2535) rfl rfl hS ?_
                have hg2537 : (((a2418 && (t2527 == 0)) && (sEq t2529 x0)) && (decide ((x0.size : Int) ≤ 300))) = false := by simp only [hg2535, Bool.and_true, Bool.true_and, Bool.and_false, Bool.false_and, Bool.or_true, Bool.true_or, Bool.or_false, Bool.false_or, Bool.not_true, Bool.not_false, Bool.not_not]
                refine drwp_take (v := .bool (((a2418 && (t2527 == 0)) && (sEq t2529 x0)) && (decide ((x0.size : Int) ≤ 300)))) rfl (guard_none rfl) rfl rfl (fun w_ hS_ => (ex_pand_f rfl rfl hg2535)) hS ?_
                refine drwp_oneS rfl (guard_none rfl) rfl (does_store (vs := [.int .i64 a2280, .int .i64 a2281, u2325, v2415]) (cs' := [.int .i64 a2280, .int .i64 a2281, u2325, v2415]) rfl rfl rfl rfl tsz25 (Ones.int (Ones.int (Ones.rd (HM.own_rd 2 rfl) (Ones.rd (HM.own_rd 3 rfl) Ones.nil)))) rfl rfl HM) ?_
                rintro w2538 HM
                refine ⟨Mem.suf (M := [box b2238 25 [.int .i64 a2280, .int .i64 a2281, u2325, v2415]]) HM, ?_⟩
                have hS := Mem.suf (M := [box b2238 25 [.int .i64 a2280, .int .i64 a2281, u2325, v2415]]) HM
                refine drwp_take rfl (guard_none rfl) rfl rfl (fun w_ hS_ => (ex_assign rfl rfl)) hS ?_
                refine drwp_done ?_
                replace HM := (HM.front 1 rfl rfl).drop
                exact at_meet [(2, .pointer (some ⟨b2238, 0, none⟩)), (3, .bool (((a2418 && (t2527 == 0)) && (sEq t2529 x0)) && (decide ((x0.size : Int) ≤ 300))))] ⟨rfl, HM⟩ (Sub.cons rfl (Sub.cons rfl Sub.nil))
            · skip
              refine drwp_off rfl (guard_off rfl rfl rfl hg2533) rfl rfl hS ?_
              refine drwp_off1 rfl (guard_off rfl rfl rfl hg2533) rfl rfl ⟨hS, ?_⟩
              refine drwp_off rfl (guard_off rfl rfl rfl hg2533) rfl rfl hS ?_
              have hg2539 : ((a2418 && (t2527 == 0)) && (sEq t2529 x0)) = false := by simp only [hg2533, Bool.and_true, Bool.true_and, Bool.and_false, Bool.false_and, Bool.or_true, Bool.true_or, Bool.or_false, Bool.false_or, Bool.not_true, Bool.not_false, Bool.not_not]
              refine drwp_take (v := .bool ((a2418 && (t2527 == 0)) && (sEq t2529 x0))) rfl (guard_none rfl) rfl rfl (fun w_ hS_ => (ex_pand_f rfl rfl hg2533)) hS ?_
              refine drwp_take rfl (guard_none rfl) rfl rfl (fun w_ hS_ => (ex_move rfl rfl)) hS ?_
              refine drwp_off rfl (guard_off rfl rfl rfl hg2539) rfl rfl hS ?_
              refine drwp_off rfl (guard_off rfl rfl rfl hg2539) rfl rfl hS ?_
              refine drwp_off rfl (guard_off rfl rfl rfl hg2539) rfl rfl hS ?_
              have hg2540 : (((a2418 && (t2527 == 0)) && (sEq t2529 x0)) && (decide ((x0.size : Int) ≤ 300))) = false := by simp only [hg2539, Bool.and_true, Bool.true_and, Bool.and_false, Bool.false_and, Bool.or_true, Bool.true_or, Bool.or_false, Bool.false_or, Bool.not_true, Bool.not_false, Bool.not_not]
              refine drwp_take (v := .bool (((a2418 && (t2527 == 0)) && (sEq t2529 x0)) && (decide ((x0.size : Int) ≤ 300)))) rfl (guard_none rfl) rfl rfl (fun w_ hS_ => (ex_pand_f rfl rfl hg2539)) hS ?_
              refine drwp_oneS rfl (guard_none rfl) rfl (does_store (vs := [.int .i64 a2280, .int .i64 a2281, u2325, v2415]) (cs' := [.int .i64 a2280, .int .i64 a2281, u2325, v2415]) rfl rfl rfl rfl tsz25 (Ones.int (Ones.int (Ones.rd (HM.own_rd 2 rfl) (Ones.rd (HM.own_rd 3 rfl) Ones.nil)))) rfl rfl HM) ?_
              rintro w2541 HM
              refine ⟨Mem.suf (M := [box b2238 25 [.int .i64 a2280, .int .i64 a2281, u2325, v2415]]) HM, ?_⟩
              have hS := Mem.suf (M := [box b2238 25 [.int .i64 a2280, .int .i64 a2281, u2325, v2415]]) HM
              refine drwp_take rfl (guard_none rfl) rfl rfl (fun w_ hS_ => (ex_assign rfl rfl)) hS ?_
              refine drwp_done ?_
              replace HM := (HM.front 1 rfl rfl).drop
              exact at_meet [(2, .pointer (some ⟨b2238, 0, none⟩)), (3, .bool (((a2418 && (t2527 == 0)) && (sEq t2529 x0)) && (decide ((x0.size : Int) ≤ 300))))] ⟨rfl, HM⟩ (Sub.cons rfl (Sub.cons rfl Sub.nil))
          · skip
            refine drwp_off1 rfl (guard_off rfl rfl rfl hg2531) rfl rfl ⟨hS, ?_⟩
            refine drwp_off rfl (guard_off rfl rfl rfl hg2531) rfl rfl hS ?_
            have hg2542 : (a2418 && (t2527 == 0)) = false := by simp only [hg2531, Bool.and_true, Bool.true_and, Bool.and_false, Bool.false_and, Bool.or_true, Bool.true_or, Bool.or_false, Bool.false_or, Bool.not_true, Bool.not_false, Bool.not_not]
            refine drwp_take (v := .bool (a2418 && (t2527 == 0))) rfl (guard_none rfl) rfl rfl (fun w_ hS_ => (ex_pand_f rfl rfl hg2531)) hS ?_
            refine drwp_take rfl (guard_none rfl) rfl rfl (fun w_ hS_ => (ex_move rfl rfl)) hS ?_
            refine drwp_off rfl (guard_off rfl rfl rfl hg2542) rfl rfl hS ?_
            refine drwp_off1 rfl (guard_off rfl rfl rfl hg2542) rfl rfl ⟨hS, ?_⟩
            refine drwp_off rfl (guard_off rfl rfl rfl hg2542) rfl rfl hS ?_
            have hg2543 : ((a2418 && (t2527 == 0)) && (sEq t2529 x0)) = false := by simp only [hg2542, Bool.and_true, Bool.true_and, Bool.and_false, Bool.false_and, Bool.or_true, Bool.true_or, Bool.or_false, Bool.false_or, Bool.not_true, Bool.not_false, Bool.not_not]
            refine drwp_take (v := .bool ((a2418 && (t2527 == 0)) && (sEq t2529 x0))) rfl (guard_none rfl) rfl rfl (fun w_ hS_ => (ex_pand_f rfl rfl hg2542)) hS ?_
            refine drwp_take rfl (guard_none rfl) rfl rfl (fun w_ hS_ => (ex_move rfl rfl)) hS ?_
            refine drwp_off rfl (guard_off rfl rfl rfl hg2543) rfl rfl hS ?_
            refine drwp_off rfl (guard_off rfl rfl rfl hg2543) rfl rfl hS ?_
            refine drwp_off rfl (guard_off rfl rfl rfl hg2543) rfl rfl hS ?_
            have hg2544 : (((a2418 && (t2527 == 0)) && (sEq t2529 x0)) && (decide ((x0.size : Int) ≤ 300))) = false := by simp only [hg2543, Bool.and_true, Bool.true_and, Bool.and_false, Bool.false_and, Bool.or_true, Bool.true_or, Bool.or_false, Bool.false_or, Bool.not_true, Bool.not_false, Bool.not_not]
            refine drwp_take (v := .bool (((a2418 && (t2527 == 0)) && (sEq t2529 x0)) && (decide ((x0.size : Int) ≤ 300)))) rfl (guard_none rfl) rfl rfl (fun w_ hS_ => (ex_pand_f rfl rfl hg2543)) hS ?_
            refine drwp_oneS rfl (guard_none rfl) rfl (does_store (vs := [.int .i64 a2280, .int .i64 a2281, u2325, v2415]) (cs' := [.int .i64 a2280, .int .i64 a2281, u2325, v2415]) rfl rfl rfl rfl tsz25 (Ones.int (Ones.int (Ones.rd (HM.own_rd 2 rfl) (Ones.rd (HM.own_rd 3 rfl) Ones.nil)))) rfl rfl HM) ?_
            rintro w2545 HM
            refine ⟨Mem.suf (M := [box b2238 25 [.int .i64 a2280, .int .i64 a2281, u2325, v2415]]) HM, ?_⟩
            have hS := Mem.suf (M := [box b2238 25 [.int .i64 a2280, .int .i64 a2281, u2325, v2415]]) HM
            refine drwp_take rfl (guard_none rfl) rfl rfl (fun w_ hS_ => (ex_assign rfl rfl)) hS ?_
            refine drwp_done ?_
            replace HM := (HM.front 1 rfl rfl).drop
            exact at_meet [(2, .pointer (some ⟨b2238, 0, none⟩)), (3, .bool (((a2418 && (t2527 == 0)) && (sEq t2529 x0)) && (decide ((x0.size : Int) ≤ 300))))] ⟨rfl, HM⟩ (Sub.cons rfl (Sub.cons rfl Sub.nil))
        · rintro _ w2546 ⟨rfl, HM⟩
          refine at_then ?_
          refine run_ret ?_
          have hcb0 := HM.box_at 0 rfl
          replace HM := (HM.front 0 rfl rfl).drop
          have hR := Option.some.inj H
          subst hR
          exact at_retN1 rfl rfl rfl Tryz.underlying25 rfl tsz25 rfl hcb0 ⟨_, rfl, _, _, rfl, HM⟩
end Go.Proofs.YtcpacdbdehphkaaGreatDoor.Zk
