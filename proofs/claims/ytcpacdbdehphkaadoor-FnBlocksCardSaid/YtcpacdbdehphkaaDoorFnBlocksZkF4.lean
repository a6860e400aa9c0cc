/- What functions of the program compute, each as a plain function, and that they do. Conditions: as each theorem states them. -/
import Derived.Test.YtcpacdbdehphkaaDoorFnBlocksZkF3
namespace Go.Proofs.YtcpacdbdehphkaaDoor.Zk
open Go Go.RowKit Go.IntWalk Go.Proofs
set_option linter.unusedVariables false
set_option linter.unusedSimpArgs false
set_option maxRecDepth 100000
set_option maxHeartbeats 4000000
def spec_ParseBlock.f (k : Nat) (x0 : ByteArray) : Option BlockResult := ((spec_l7Parse.f k x0).bind fun t2383 => (bif !t2383.2 then some (⟨5, (⟨0, 0, 0, ([] : List Int)⟩ : Block)⟩ : BlockResult) else some (⟨0, (⟨t2383.1.fPrev, t2383.1.fHeight, t2383.1.fMiner, t2383.1.fTxs⟩ : Block)⟩ : BlockResult)))
theorem spec_ParseBlock.calls {k : Nat} {x0 : ByteArray}  {w : World}  {r : BlockResult} (H : spec_ParseBlock.f k x0 = some r) :
    Calls Tryd.prog 21 ([.string x0] : List Value).toArray w (fun e w_ => ∃ v, e = .returned v ∧ ∃ u0 : Value, v = (.agg #[.int .i64 r.fCode, .int .i64 r.fBlock.fPrev, .int .i64 r.fBlock.fHeight, .int .i64 r.fBlock.fMiner, u0]) ∧ Mem w [] w_ [own kInt 2 u0 r.fBlock.fTxs]) := by
  have HM := Mem.start w
  refine calls_run (N := 15) Tryd.func21 rfl rfl rfl rfl ?_
  unfold spec_ParseBlock.f at H
  refine run_seq ?_
  refine run_region rfl ?_
  refine ops_does rfl (guard_none rfl) rfl rfl (does_alloc (cs := [.int .i64 0, .int .i64 0, .int .i64 0, .int .i64 0, .slice none 0 0]) rfl tz53 rfl HM) ?_
  rintro _ w2382 ⟨b2379, rfl, HM⟩
  refine ops_nil ?_
  refine at_then ?_
  refine run_seq ?_
  obtain ⟨t2383, h2384, H⟩ := bind_some H
  refine run_region rfl ?_
  refine ops_ex rfl (guard_none rfl) rfl rfl (ex_move rfl rfl) ?_
  refine ops_does rfl (guard_none rfl) rfl rfl (does_callk rfl callok51 rfl (spec_l7Parse.calls (x0 := x0) h2384)) ?_
  rintro _ w2390 ⟨u2385, rfl, hn⟩
  replace HM : Mem w [] w2390 [own kInt 2 u2385 t2383.1.fTxs, box b2379 53 [.int .i64 0, .int .i64 0, .int .i64 0, .int .i64 0, .slice none 0 0]] := HM.call hn
  refine ops_ex rfl (guard_none rfl) rfl rfl (ex_move rfl rfl) ?_
  refine ops_ex rfl (guard_none rfl) rfl rfl (ex_extract rfl rfl rfl) ?_
  refine ops_ex rfl (guard_none rfl) rfl rfl (ex_extract rfl rfl rfl) ?_
  refine ops_does rfl (guard_none rfl) rfl rfl (does_alloc (cs := [.int .i64 0, .int .i64 0, .int .i64 0, .slice none 0 0]) rfl tz51 rfl HM) ?_
  rintro _ w2391 ⟨b2387, rfl, HM⟩
  refine ops_doesS rfl (guard_none rfl) rfl (does_store (vs := [.int .i64 t2383.1.fPrev, .int .i64 t2383.1.fHeight, .int .i64 t2383.1.fMiner, u2385]) (cs' := [.int .i64 t2383.1.fPrev, .int .i64 t2383.1.fHeight, .int .i64 t2383.1.fMiner, u2385]) rfl rfl rfl rfl tsz51 (Ones.int (Ones.int (Ones.int (Ones.rd (HM.own_rd 1 rfl) Ones.nil)))) rfl rfl HM) ?_
  rintro w2392 HM
  refine ops_ex rfl (guard_none rfl) rfl rfl (ex_assign rfl rfl) ?_
  refine ops_nil ?_
  refine at_then ?_
  refine run_seq ?_
  refine run_seq ?_
  refine run_region rfl ?_
  refine ops_ex rfl (guard_none rfl) rfl rfl (ex_move rfl rfl) ?_
  refine ops_ex rfl (guard_none rfl) rfl rfl (ex_not rfl rfl) ?_
  refine ops_nil ?_
  refine at_then ?_
  refine run_cond (b := !t2383.2) rfl (fun hb2393 => ?_) (fun hb2393 => ?_)
  · replace H := cond_t hb2393 H
    refine run_seq ?_
    refine run_region rfl ?_
    refine ops_ex rfl (guard_none rfl) rfl rfl (ex_build (cells := #[(.int .i64 5), (.int .i64 0), (.int .i64 0), (.int .i64 0), (.slice none 0 0)]) rfl rfl (by kernel_rfl)) ?_
    replace HM := HM.front 2 rfl rfl
    refine ops_doesS rfl (guard_none rfl) rfl (does_store (vs := [.int .i64 5, .int .i64 0, .int .i64 0, .int .i64 0, .slice none 0 0]) (cs' := [.int .i64 5, .int .i64 0, .int .i64 0, .int .i64 0, .slice none 0 0]) rfl rfl rfl rfl tsz53 (Ones.int (Ones.int (Ones.int (Ones.int (Ones.sl Ones.nil))))) rfl rfl HM) ?_
    rintro w2394 HM
    refine ops_nil ?_
    refine at_then ?_
    refine run_ret ?_
    refine at_then_ret ?_
    replace HM := HM.empty kInt 2 none
    replace HM := (HM.front 2 rfl rfl).drop
    replace HM := (HM.front 2 rfl rfl).drop
    replace HM := HM.front 1 rfl rfl
    have hcb0 := HM.box_at 0 rfl
    replace HM := (HM.front 0 rfl rfl).drop
    have hR := Option.some.inj H
    subst hR
    exact at_retN rfl rfl Tryd.underlying53 rfl tsz53 rfl hcb0 ⟨_, rfl, _, rfl, HM⟩
  · replace H := cond_f hb2393 H
    refine run_skip ?_
    refine at_then ?_
    refine run_seq ?_
    refine run_region rfl ?_
    refine ops_ex rfl (guard_none rfl) rfl rfl (ex_loadN (cs := [(.int .i64 t2383.1.fPrev), (.int .i64 t2383.1.fHeight), (.int .i64 t2383.1.fMiner), u2385]) rfl rfl Tryd.underlying51 rfl tsz51 rfl ((HM.box_at 0 rfl).sub 0 4 rfl)) ?_
    refine ops_ex rfl (guard_none rfl) rfl rfl (ex_build1 (fun u2385 => [(1, .agg #[(.int .i64 t2383.1.fPrev), (.int .i64 t2383.1.fHeight), (.int .i64 t2383.1.fMiner), u2385])]) (fun u2385 => #[.int .i64 0, .int .i64 t2383.1.fPrev, .int .i64 t2383.1.fHeight, .int .i64 t2383.1.fMiner, u2385]) rfl rfl (fun _ _ _ => by kernel_rfl) (HM.own_rd 1 rfl).isSl) ?_
    replace HM := HM.front 2 rfl rfl
    refine ops_doesS rfl (guard_none rfl) rfl (does_store (vs := [.int .i64 0, .int .i64 t2383.1.fPrev, .int .i64 t2383.1.fHeight, .int .i64 t2383.1.fMiner, u2385]) (cs' := [.int .i64 0, .int .i64 t2383.1.fPrev, .int .i64 t2383.1.fHeight, .int .i64 t2383.1.fMiner, u2385]) rfl rfl rfl rfl tsz53 (Ones.int (Ones.int (Ones.int (Ones.int (Ones.rd (HM.own_rd 2 rfl) Ones.nil))))) rfl rfl HM) ?_
    rintro w2396 HM
    refine ops_nil ?_
    refine at_then ?_
    refine run_ret ?_
    replace HM := (HM.front 1 rfl rfl).drop
    have hcb0 := HM.box_at 0 rfl
    replace HM := (HM.front 0 rfl rfl).drop
    have hR := Option.some.inj H
    subst hR
    exact at_retN rfl rfl Tryd.underlying53 rfl tsz53 rfl hcb0 ⟨_, rfl, _, rfl, HM⟩

def spec_l7Bent.f (k : Nat) (x0 : l1Src) : Option (Block × Int) := ((spec_l7Draw.f k x0).bind fun t2508 => ((spec_l1Next.f k (⟨x0.fCode, t2508.2⟩ : l1Src) 12).bind fun t2524 => (bif (t2524.1 == 0) then ((spec_l1Pick.f k (⟨x0.fCode, t2524.2⟩ : l1Src) ([(-1), 61, 0] : List Int)).bind fun t2537 => some ((⟨t2537.1, t2508.1.fHeight, t2508.1.fMiner, t2508.1.fTxs⟩ : Block), t2537.2)) else (bif (t2524.1 == 1) then ((spec_l1Pick.f k (⟨x0.fCode, t2524.2⟩ : l1Src) ([0, 41, 1] : List Int)).bind fun t2553 => some ((⟨t2508.1.fPrev, t2553.1, t2508.1.fMiner, t2508.1.fTxs⟩ : Block), t2553.2)) else (bif (t2524.1 == 2) then ((spec_l1Pick.f k (⟨x0.fCode, t2524.2⟩ : l1Src) ([0, 1000] : List Int)).bind fun t2569 => some ((⟨t2508.1.fPrev, t2508.1.fHeight, t2569.1, t2508.1.fTxs⟩ : Block), t2569.2)) else (bif (t2524.1 == 3) then ((spec_l1Pick.f k (⟨x0.fCode, t2524.2⟩ : l1Src) ([0, 61, 5] : List Int)).bind fun t2585 => (chk (leB ((t2508.1.fTxs.length + ([t2585.1] : List Int).length) * 8) 140737488355328) (some ((⟨t2508.1.fPrev, t2508.1.fHeight, t2508.1.fMiner, t2508.1.fTxs ++ ([t2585.1] : List Int)⟩ : Block), t2585.2)))) else (bif (t2524.1 == 4) then (chk (decide (0 ≤ (7 : Int))) (chk (leB (((7 : Int)).toNat * 8) 281474976710656) (some ((⟨t2508.1.fPrev, t2508.1.fHeight, t2508.1.fMiner, List.replicate ((7 : Int)).toNat 0⟩ : Block), t2524.2)))) else some ((⟨t2508.1.fPrev, t2508.1.fHeight, t2508.1.fMiner, t2508.1.fTxs⟩ : Block), t2524.2))))))))
theorem spec_l7Bent.calls {k : Nat} {x0 : l1Src} {b0 : Nat} {p0_0 : Value} {w wo : World} {X : List Nat} (hwo : Olds wo w X) (hX : Hold w [box b0 130 [p0_0, .int .i64 x0.fAt]] X) (hXn : X.Nodup) (hXl : ∀ b ∈ X, b < w.heap.size) (hp0_0 : RdS kU8 wo p0_0 x0.fCode) {r : Block × Int} (H : spec_l7Bent.f k x0 = some r) :
    Calls Tryd.prog 52 ([.pointer (some ⟨b0, 0, none⟩)] : List Value).toArray w (fun e w_ => ∃ v, e = .returned v ∧ ∃ u0 : Value, v = (.agg #[.int .i64 r.1.fPrev, .int .i64 r.1.fHeight, .int .i64 r.1.fMiner, u0]) ∧ Mem w X w_ [own kInt 2 u0 r.1.fTxs, box b0 130 [p0_0, .int .i64 r.2]]) := by
  have HM := Mem.startX hX hXn hXl
  refine calls_run (N := 41) Tryd.func52 rfl rfl rfl rfl ?_
  unfold spec_l7Bent.f at H
  refine run_seq ?_
  refine run_region rfl ?_
  refine ops_does rfl (guard_none rfl) rfl rfl (does_alloc (cs := [.int .i64 0, .int .i64 0, .int .i64 0, .slice none 0 0]) rfl tz51 rfl HM) ?_
  rintro _ w2507 ⟨b2504, rfl, HM⟩
  refine ops_nil ?_
  refine at_then ?_
  refine run_seq ?_
  obtain ⟨t2508, h2509, H⟩ := bind_some H
  refine run_region rfl ?_
  refine ops_ex rfl (guard_none rfl) rfl rfl (ex_move rfl rfl) ?_
  replace HM := HM.front 1 rfl rfl
  obtain ⟨F2512, hF2513, hFn2514, hFl2515, HMh2516, hcl2517⟩ := HM.hide (Ms := [box b0 130 [p0_0, .int .i64 x0.fAt]])
  refine ops_does rfl (guard_none rfl) rfl rfl (does_callk rfl callok45 rfl (spec_l7Draw.calls (x0 := x0) (hide_olds _ _) hF2513 hFn2514 hFl2515 (HMh2516.rdo hwo hp0_0) h2509)) ?_
  rintro _ w2521 ⟨u2510, rfl, hn⟩
  replace HM : Mem w X w2521 [own kInt 2 u2510 t2508.1.fTxs, box b0 130 [p0_0, .int .i64 t2508.2], box b2504 51 [.int .i64 0, .int .i64 0, .int .i64 0, .slice none 0 0]] := hcl2517 _ _ hn
  refine ops_does rfl (guard_none rfl) rfl rfl (does_alloc (cs := [.int .i64 0, .int .i64 0, .int .i64 0, .slice none 0 0]) rfl tz51 rfl HM) ?_
  rintro _ w2522 ⟨b2518, rfl, HM⟩
  refine ops_doesS rfl (guard_none rfl) rfl (does_store (vs := [.int .i64 t2508.1.fPrev, .int .i64 t2508.1.fHeight, .int .i64 t2508.1.fMiner, u2510]) (cs' := [.int .i64 t2508.1.fPrev, .int .i64 t2508.1.fHeight, .int .i64 t2508.1.fMiner, u2510]) rfl rfl rfl rfl tsz51 (Ones.int (Ones.int (Ones.int (Ones.rd (HM.own_rd 1 rfl) Ones.nil)))) rfl rfl HM) ?_
  rintro w2523 HM
  refine ops_nil ?_
  refine at_then ?_
  refine run_seq ?_
  refine run_seq ?_
  obtain ⟨t2524, h2525, H⟩ := bind_some H
  refine run_region rfl ?_
  refine ops_ex rfl (guard_none rfl) rfl rfl (ex_move rfl rfl) ?_
  replace HM := HM.front 2 rfl rfl
  obtain ⟨F2526, hF2527, hFn2528, hFl2529, HMh2530, hcl2531⟩ := HM.hide (Ms := [box b0 130 [p0_0, .int .i64 t2508.2]])
  refine ops_does rfl (guard_none rfl) rfl rfl (does_callk rfl callok47 rfl (spec_l1Next.calls (x0 := (⟨x0.fCode, t2508.2⟩ : l1Src)) (x1 := 12) (hide_olds _ _) hF2527 hFn2528 hFl2529 (HMh2530.rdo hwo hp0_0) h2525)) ?_
  rintro _ w2532 ⟨rfl, hn⟩
  replace HM : Mem w X w2532 [box b0 130 [p0_0, .int .i64 t2524.2], box b2518 51 [.int .i64 t2508.1.fPrev, .int .i64 t2508.1.fHeight, .int .i64 t2508.1.fMiner, u2510], own kInt 2 u2510 t2508.1.fTxs, box b2504 51 [.int .i64 0, .int .i64 0, .int .i64 0, .slice none 0 0]] := hcl2531 _ _ hn
  refine ops_nil ?_
  refine at_then ?_
  refine run_block ?_
  refine run_seq ?_
  refine run_region rfl ?_
  refine ops_ex rfl (guard_none rfl) rfl rfl (ex_eql rfl rfl rfl) ?_
  refine ops_ex rfl (guard_none rfl) rfl rfl (ex_assign rfl rfl) ?_
  refine ops_nil ?_
  refine at_then ?_
  refine run_cond (b := (t2524.1 == 0)) rfl (fun hb2533 => ?_) (fun hb2533 => ?_)
  · replace H := cond_t hb2533 H
    obtain ⟨t2537, h2538, H⟩ := bind_some H
    refine run_region rfl ?_
    refine ops_ex rfl (guard_none rfl) rfl rfl (ex_move rfl rfl) ?_
    refine ops_does rfl (guard_none rfl) rfl rfl (does_lit (e := 2) (cs := [.int .i64 (-1), .int .i64 61, .int .i64 0]) (xs := ([(-1), 61, 0] : List Int)) kInt rfl rfl (fun _ => by kernel_rfl) rfl rfl (fun _ _ h => by have h' : _ = [] := h; subst h'; exact (Elems.cons (d := kInt) (x := (-1)) (f := []) ⟨rfl, rfl⟩ (Elems.cons (d := kInt) (x := 61) (f := []) ⟨rfl, rfl⟩ (Elems.cons (d := kInt) (x := 0) (f := []) ⟨rfl, rfl⟩ .nil)))) HM.emp) ?_
    rintro v2534 w2545 HM
    replace HM := HM.front 1 rfl rfl
    obtain ⟨F2539, hF2540, hFn2541, hFl2542, HMh2543, hcl2544⟩ := HM.hide (Ms := [box b0 130 [p0_0, .int .i64 t2524.2]])
    refine ops_does rfl (guard_none rfl) rfl rfl (does_callk rfl callok48 rfl (spec_l1Pick.calls (x0 := (⟨x0.fCode, t2524.2⟩ : l1Src)) (x1 := ([(-1), 61, 0] : List Int)) (hide_olds _ _) hF2540 hFn2541 hFl2542 (HMh2543.rdo hwo hp0_0) (HMh2543.own_rd 0 rfl) h2538)) ?_
    rintro _ w2546 ⟨rfl, hn⟩
    replace HM : Mem w X w2546 [box b0 130 [p0_0, .int .i64 t2537.2], own kInt 2 v2534 ([(-1), 61, 0] : List Int), box b2518 51 [.int .i64 t2508.1.fPrev, .int .i64 t2508.1.fHeight, .int .i64 t2508.1.fMiner, u2510], own kInt 2 u2510 t2508.1.fTxs, box b2504 51 [.int .i64 0, .int .i64 0, .int .i64 0, .slice none 0 0]] := hcl2544 _ _ hn
    refine ops_ex rfl (guard_none rfl) rfl rfl (ex_fieldAddr (off' := 0) rfl rfl Tryd.underlying51 rfl tsz2 rfl) ?_
    replace HM := HM.front 2 rfl rfl
    refine ops_doesS rfl (guard_none rfl) rfl (does_store (vs := [.int .i64 t2537.1]) (cs' := [.int .i64 t2537.1, .int .i64 t2508.1.fHeight, .int .i64 t2508.1.fMiner, u2510]) rfl rfl rfl rfl tsz2 (Ones.int Ones.nil) rfl rfl HM) ?_
    rintro w2547 HM
    refine ops_nil ?_
    refine at_block ?_
    refine at_then ?_
    refine run_seq ?_
    refine run_region rfl ?_
    refine ops_ex rfl (guard_none rfl) rfl rfl (ex_loadN (cs := [(.int .i64 t2537.1), (.int .i64 t2508.1.fHeight), (.int .i64 t2508.1.fMiner), u2510]) rfl rfl Tryd.underlying51 rfl tsz51 rfl ((HM.box_at 0 rfl).sub 0 4 rfl)) ?_
    replace HM := HM.front 4 rfl rfl
    refine ops_doesS rfl (guard_none rfl) rfl (does_store (vs := [.int .i64 t2537.1, .int .i64 t2508.1.fHeight, .int .i64 t2508.1.fMiner, u2510]) (cs' := [.int .i64 t2537.1, .int .i64 t2508.1.fHeight, .int .i64 t2508.1.fMiner, u2510]) rfl rfl rfl rfl tsz51 (Ones.int (Ones.int (Ones.int (Ones.rd (HM.own_rd 4 rfl) Ones.nil)))) rfl rfl HM) ?_
    rintro w2548 HM
    refine ops_nil ?_
    refine at_then ?_
    refine run_ret ?_
    replace HM := (HM.front 1 rfl rfl).drop
    replace HM := (HM.front 2 rfl rfl).drop
    replace HM := HM.front 1 rfl rfl
    replace HM := HM.front 2 rfl rfl
    replace HM := HM.front 2 rfl rfl
    have hcb0 := HM.box_at 0 rfl
    replace HM := (HM.front 0 rfl rfl).drop
    have hR := Option.some.inj H
    subst hR
    exact at_retN rfl rfl Tryd.underlying51 rfl tsz51 rfl hcb0 ⟨_, rfl, _, rfl, HM⟩
  · replace H := cond_f hb2533 H
    refine run_seq ?_
    refine run_region rfl ?_
    refine ops_ex rfl (guard_none rfl) rfl rfl (ex_eql rfl rfl rfl) ?_
    refine ops_ex rfl (guard_none rfl) rfl rfl (ex_assign rfl rfl) ?_
    refine ops_nil ?_
    refine at_then ?_
    refine run_cond (b := (t2524.1 == 1)) rfl (fun hb2549 => ?_) (fun hb2549 => ?_)
    · replace H := cond_t hb2549 H
      obtain ⟨t2553, h2554, H⟩ := bind_some H
      refine run_region rfl ?_
      refine ops_ex rfl (guard_none rfl) rfl rfl (ex_move rfl rfl) ?_
      refine ops_does rfl (guard_none rfl) rfl rfl (does_lit (e := 2) (cs := [.int .i64 0, .int .i64 41, .int .i64 1]) (xs := ([0, 41, 1] : List Int)) kInt rfl rfl (fun _ => by kernel_rfl) rfl rfl (fun _ _ h => by have h' : _ = [] := h; subst h'; exact (Elems.cons (d := kInt) (x := 0) (f := []) ⟨rfl, rfl⟩ (Elems.cons (d := kInt) (x := 41) (f := []) ⟨rfl, rfl⟩ (Elems.cons (d := kInt) (x := 1) (f := []) ⟨rfl, rfl⟩ .nil)))) HM.emp) ?_
      rintro v2550 w2561 HM
      replace HM := HM.front 1 rfl rfl
      obtain ⟨F2555, hF2556, hFn2557, hFl2558, HMh2559, hcl2560⟩ := HM.hide (Ms := [box b0 130 [p0_0, .int .i64 t2524.2]])
      refine ops_does rfl (guard_none rfl) rfl rfl (does_callk rfl callok48 rfl (spec_l1Pick.calls (x0 := (⟨x0.fCode, t2524.2⟩ : l1Src)) (x1 := ([0, 41, 1] : List Int)) (hide_olds _ _) hF2556 hFn2557 hFl2558 (HMh2559.rdo hwo hp0_0) (HMh2559.own_rd 0 rfl) h2554)) ?_
      rintro _ w2562 ⟨rfl, hn⟩
      replace HM : Mem w X w2562 [box b0 130 [p0_0, .int .i64 t2553.2], own kInt 2 v2550 ([0, 41, 1] : List Int), box b2518 51 [.int .i64 t2508.1.fPrev, .int .i64 t2508.1.fHeight, .int .i64 t2508.1.fMiner, u2510], own kInt 2 u2510 t2508.1.fTxs, box b2504 51 [.int .i64 0, .int .i64 0, .int .i64 0, .slice none 0 0]] := hcl2560 _ _ hn
      refine ops_ex rfl (guard_none rfl) rfl rfl (ex_fieldAddr (off' := 1) rfl rfl Tryd.underlying51 rfl tsz2 rfl) ?_
      replace HM := HM.front 2 rfl rfl
      refine ops_doesS rfl (guard_none rfl) rfl (does_store (vs := [.int .i64 t2553.1]) (cs' := [.int .i64 t2508.1.fPrev, .int .i64 t2553.1, .int .i64 t2508.1.fMiner, u2510]) rfl rfl rfl rfl tsz2 (Ones.int Ones.nil) rfl rfl HM) ?_
      rintro w2563 HM
      refine ops_nil ?_
      refine at_block ?_
      refine at_then ?_
      refine run_seq ?_
      refine run_region rfl ?_
      refine ops_ex rfl (guard_none rfl) rfl rfl (ex_loadN (cs := [(.int .i64 t2508.1.fPrev), (.int .i64 t2553.1), (.int .i64 t2508.1.fMiner), u2510]) rfl rfl Tryd.underlying51 rfl tsz51 rfl ((HM.box_at 0 rfl).sub 0 4 rfl)) ?_
      replace HM := HM.front 4 rfl rfl
      refine ops_doesS rfl (guard_none rfl) rfl (does_store (vs := [.int .i64 t2508.1.fPrev, .int .i64 t2553.1, .int .i64 t2508.1.fMiner, u2510]) (cs' := [.int .i64 t2508.1.fPrev, .int .i64 t2553.1, .int .i64 t2508.1.fMiner, u2510]) rfl rfl rfl rfl tsz51 (Ones.int (Ones.int (Ones.int (Ones.rd (HM.own_rd 4 rfl) Ones.nil)))) rfl rfl HM) ?_
      rintro w2564 HM
      refine ops_nil ?_
      refine at_then ?_
      refine run_ret ?_
      replace HM := (HM.front 1 rfl rfl).drop
      replace HM := (HM.front 2 rfl rfl).drop
      replace HM := HM.front 1 rfl rfl
      replace HM := HM.front 2 rfl rfl
      replace HM := HM.front 2 rfl rfl
      have hcb0 := HM.box_at 0 rfl
      replace HM := (HM.front 0 rfl rfl).drop
      have hR := Option.some.inj H
      subst hR
      exact at_retN rfl rfl Tryd.underlying51 rfl tsz51 rfl hcb0 ⟨_, rfl, _, rfl, HM⟩
    · replace H := cond_f hb2549 H
      refine run_seq ?_
      refine run_region rfl ?_
      refine ops_ex rfl (guard_none rfl) rfl rfl (ex_eql rfl rfl rfl) ?_
      refine ops_ex rfl (guard_none rfl) rfl rfl (ex_assign rfl rfl) ?_
      refine ops_nil ?_
      refine at_then ?_
      refine run_cond (b := (t2524.1 == 2)) rfl (fun hb2565 => ?_) (fun hb2565 => ?_)
      · replace H := cond_t hb2565 H
        obtain ⟨t2569, h2570, H⟩ := bind_some H
        refine run_region rfl ?_
        refine ops_ex rfl (guard_none rfl) rfl rfl (ex_move rfl rfl) ?_
        refine ops_does rfl (guard_none rfl) rfl rfl (does_lit (e := 2) (cs := [.int .i64 0, .int .i64 1000]) (xs := ([0, 1000] : List Int)) kInt rfl rfl (fun _ => by kernel_rfl) rfl rfl (fun _ _ h => by have h' : _ = [] := h; subst h'; exact (Elems.cons (d := kInt) (x := 0) (f := []) ⟨rfl, rfl⟩ (Elems.cons (d := kInt) (x := 1000) (f := []) ⟨rfl, rfl⟩ .nil))) HM.emp) ?_
        rintro v2566 w2577 HM
        replace HM := HM.front 1 rfl rfl
        obtain ⟨F2571, hF2572, hFn2573, hFl2574, HMh2575, hcl2576⟩ := HM.hide (Ms := [box b0 130 [p0_0, .int .i64 t2524.2]])
        refine ops_does rfl (guard_none rfl) rfl rfl (does_callk rfl callok48 rfl (spec_l1Pick.calls (x0 := (⟨x0.fCode, t2524.2⟩ : l1Src)) (x1 := ([0, 1000] : List Int)) (hide_olds _ _) hF2572 hFn2573 hFl2574 (HMh2575.rdo hwo hp0_0) (HMh2575.own_rd 0 rfl) h2570)) ?_
        rintro _ w2578 ⟨rfl, hn⟩
        replace HM : Mem w X w2578 [box b0 130 [p0_0, .int .i64 t2569.2], own kInt 2 v2566 ([0, 1000] : List Int), box b2518 51 [.int .i64 t2508.1.fPrev, .int .i64 t2508.1.fHeight, .int .i64 t2508.1.fMiner, u2510], own kInt 2 u2510 t2508.1.fTxs, box b2504 51 [.int .i64 0, .int .i64 0, .int .i64 0, .slice none 0 0]] := hcl2576 _ _ hn
        refine ops_ex rfl (guard_none rfl) rfl rfl (ex_fieldAddr (off' := 2) rfl rfl Tryd.underlying51 rfl tsz2 rfl) ?_
        replace HM := HM.front 2 rfl rfl
        refine ops_doesS rfl (guard_none rfl) rfl (does_store (vs := [.int .i64 t2569.1]) (cs' := [.int .i64 t2508.1.fPrev, .int .i64 t2508.1.fHeight, .int .i64 t2569.1, u2510]) rfl rfl rfl rfl tsz2 (Ones.int Ones.nil) rfl rfl HM) ?_
        rintro w2579 HM
        refine ops_nil ?_
        refine at_block ?_
        refine at_then ?_
        refine run_seq ?_
        refine run_region rfl ?_
        refine ops_ex rfl (guard_none rfl) rfl rfl (ex_loadN (cs := [(.int .i64 t2508.1.fPrev), (.int .i64 t2508.1.fHeight), (.int .i64 t2569.1), u2510]) rfl rfl Tryd.underlying51 rfl tsz51 rfl ((HM.box_at 0 rfl).sub 0 4 rfl)) ?_
        replace HM := HM.front 4 rfl rfl
        refine ops_doesS rfl (guard_none rfl) rfl (does_store (vs := [.int .i64 t2508.1.fPrev, .int .i64 t2508.1.fHeight, .int .i64 t2569.1, u2510]) (cs' := [.int .i64 t2508.1.fPrev, .int .i64 t2508.1.fHeight, .int .i64 t2569.1, u2510]) rfl rfl rfl rfl tsz51 (Ones.int (Ones.int (Ones.int (Ones.rd (HM.own_rd 4 rfl) Ones.nil)))) rfl rfl HM) ?_
        rintro w2580 HM
        refine ops_nil ?_
        refine at_then ?_
        refine run_ret ?_
        replace HM := (HM.front 1 rfl rfl).drop
        replace HM := (HM.front 2 rfl rfl).drop
        replace HM := HM.front 1 rfl rfl
        replace HM := HM.front 2 rfl rfl
        replace HM := HM.front 2 rfl rfl
        have hcb0 := HM.box_at 0 rfl
        replace HM := (HM.front 0 rfl rfl).drop
        have hR := Option.some.inj H
        subst hR
        exact at_retN rfl rfl Tryd.underlying51 rfl tsz51 rfl hcb0 ⟨_, rfl, _, rfl, HM⟩
      · replace H := cond_f hb2565 H
        refine run_seq ?_
        refine run_region rfl ?_
        refine ops_ex rfl (guard_none rfl) rfl rfl (ex_eql rfl rfl rfl) ?_
        refine ops_ex rfl (guard_none rfl) rfl rfl (ex_assign rfl rfl) ?_
        refine ops_nil ?_
        refine at_then ?_
        refine run_cond (b := (t2524.1 == 3)) rfl (fun hb2581 => ?_) (fun hb2581 => ?_)
        · replace H := cond_t hb2581 H
          obtain ⟨t2585, h2586, H⟩ := bind_some H
          obtain ⟨e2596, H⟩ := chk_some H
          refine run_meet (fun ρ_ w_ => ∃ v2597 : Value, ρ_ = [(2, .pointer (some ⟨b2504, 0, none⟩)), (3, .pointer (some ⟨b2518, 0, none⟩))] ∧ Mem w X w_ [box b0 130 [p0_0, .int .i64 t2585.2], box b2504 51 [.int .i64 0, .int .i64 0, .int .i64 0, .slice none 0 0], box b2518 51 [.int .i64 t2508.1.fPrev, .int .i64 t2508.1.fHeight, .int .i64 t2508.1.fMiner, v2597], own kInt 2 v2597 (t2508.1.fTxs ++ ([t2585.1] : List Int))]) ?_ ?_
          · skip
            replace HM := HM.front 2 rfl rfl
            replace HM := HM.front 2 rfl rfl
            replace HM := HM.front 2 rfl rfl
            refine run_draw (fun w_ => Mem w X w_ [box b2504 51 [.int .i64 0, .int .i64 0, .int .i64 0, .slice none 0 0]]) mixed rfl (l := #[false, false, false, false, false, false, false, false, false]) rfl ?_
            replace HM := HM.grow (fr_drew _)
            have hS := Mem.suf (M := [box b0 130 [p0_0, .int .i64 t2524.2], box b2518 51 [.int .i64 t2508.1.fPrev, .int .i64 t2508.1.fHeight, .int .i64 t2508.1.fMiner, u2510], own kInt 2 u2510 t2508.1.fTxs]) HM
            refine drw_take (i := 0) (l' := #[true, false, false, false, false, false, false, false, false]) rfl (guard_none rfl) rfl rfl (by kernel_rfl) (fun w_ hS_ => (ex_fieldAddr (off' := 3) rfl rfl Tryd.underlying51 rfl tsz38 rfl)) hS ?_
            refine drw_take (i := 2) (l' := #[true, false, true, false, false, false, false, false, false]) rfl (guard_none rfl) rfl rfl (by kernel_rfl) (fun w_ hS_ => (ex_move rfl rfl)) hS ?_
            refine drw_any [1, 3] (by kernel_rfl) rfl (.cons ?_ (.cons ?_ .nil))
            · skip
              refine br_does (l' := #[true, true, true, false, false, false, false, false, false]) rfl (guard_none rfl) rfl rfl (by kernel_rfl) (does_ex' (ex_load1 rfl rfl Tryd.underlying38 rfl ((HM.box_at 1 rfl) 3 _ rfl))) ?_
              rintro _ _ ⟨rfl, rfl⟩
              refine ⟨hS, ?_⟩
              refine drw_any [3] (by kernel_rfl) rfl (.cons ?_ .nil)
              refine br_does (l' := #[true, true, true, true, false, false, false, false, false]) rfl (guard_none rfl) rfl rfl (by kernel_rfl) (does_lit (e := 2) (cs := [.int .i64 0, .int .i64 61, .int .i64 5]) (xs := ([0, 61, 5] : List Int)) kInt rfl rfl (fun _ => by kernel_rfl) rfl rfl (fun _ _ h => by have h' : _ = [] := h; subst h'; exact (Elems.cons (d := kInt) (x := 0) (f := []) ⟨rfl, rfl⟩ (Elems.cons (d := kInt) (x := 61) (f := []) ⟨rfl, rfl⟩ (Elems.cons (d := kInt) (x := 5) (f := []) ⟨rfl, rfl⟩ .nil)))) HM.emp) ?_
              rintro v2582 w2599 HM
              refine ⟨Mem.suf (M := [own kInt 2 v2582 ([0, 61, 5] : List Int), box b0 130 [p0_0, .int .i64 t2524.2], box b2518 51 [.int .i64 t2508.1.fPrev, .int .i64 t2508.1.fHeight, .int .i64 t2508.1.fMiner, u2510], own kInt 2 u2510 t2508.1.fTxs]) HM, ?_⟩
              have hS := Mem.suf (M := [own kInt 2 v2582 ([0, 61, 5] : List Int), box b0 130 [p0_0, .int .i64 t2524.2], box b2518 51 [.int .i64 t2508.1.fPrev, .int .i64 t2508.1.fHeight, .int .i64 t2508.1.fMiner, u2510], own kInt 2 u2510 t2508.1.fTxs]) HM
              replace HM := HM.front 1 rfl rfl
              obtain ⟨F2587, hF2588, hFn2589, hFl2590, HMh2591, hcl2592⟩ := HM.hide (Ms := [box b0 130 [p0_0, .int .i64 t2524.2]])
              refine drw_any [4] (by kernel_rfl) rfl (.cons ?_ .nil)
              refine br_does (l' := #[true, true, true, true, true, false, false, false, false]) rfl (guard_none rfl) rfl rfl (by kernel_rfl) (does_callk rfl callok48 rfl (spec_l1Pick.calls (x0 := (⟨x0.fCode, t2524.2⟩ : l1Src)) (x1 := ([0, 61, 5] : List Int)) (hide_olds _ _) hF2588 hFn2589 hFl2590 (HMh2591.rdo hwo hp0_0) (HMh2591.own_rd 0 rfl) h2586)) ?_
              rintro _ w2600 ⟨rfl, hn⟩
              replace HM : Mem w X w2600 [box b0 130 [p0_0, .int .i64 t2585.2], own kInt 2 v2582 ([0, 61, 5] : List Int), box b2518 51 [.int .i64 t2508.1.fPrev, .int .i64 t2508.1.fHeight, .int .i64 t2508.1.fMiner, u2510], own kInt 2 u2510 t2508.1.fTxs, box b2504 51 [.int .i64 0, .int .i64 0, .int .i64 0, .slice none 0 0]] := hcl2592 _ _ hn
              refine ⟨Mem.suf (M := [box b0 130 [p0_0, .int .i64 t2585.2], own kInt 2 v2582 ([0, 61, 5] : List Int), box b2518 51 [.int .i64 t2508.1.fPrev, .int .i64 t2508.1.fHeight, .int .i64 t2508.1.fMiner, u2510], own kInt 2 u2510 t2508.1.fTxs]) HM, ?_⟩
              have hS := Mem.suf (M := [box b0 130 [p0_0, .int .i64 t2585.2], own kInt 2 v2582 ([0, 61, 5] : List Int), box b2518 51 [.int .i64 t2508.1.fPrev, .int .i64 t2508.1.fHeight, .int .i64 t2508.1.fMiner, u2510], own kInt 2 u2510 t2508.1.fTxs]) HM
              refine drw_any [5] (by kernel_rfl) rfl (.cons ?_ .nil)
              refine br_does (l' := #[true, true, true, true, true, true, false, false, false]) rfl (guard_none rfl) rfl rfl (by kernel_rfl) (does_lit (e := 2) (cs := [.int .i64 t2585.1]) (xs := ([t2585.1] : List Int)) kInt rfl rfl (fun _ => by kernel_rfl) rfl rfl (fun _ _ h => by have h' : _ = [] := h; subst h'; exact (Elems.cons (d := kInt) (x := t2585.1) (f := []) ⟨rfl, rfl⟩ .nil)) HM.emp) ?_
              rintro v2593 w2601 HM
              refine ⟨Mem.suf (M := [own kInt 2 v2593 ([t2585.1] : List Int), box b0 130 [p0_0, .int .i64 t2585.2], own kInt 2 v2582 ([0, 61, 5] : List Int), box b2518 51 [.int .i64 t2508.1.fPrev, .int .i64 t2508.1.fHeight, .int .i64 t2508.1.fMiner, u2510], own kInt 2 u2510 t2508.1.fTxs]) HM, ?_⟩
              have hS := Mem.suf (M := [own kInt 2 v2593 ([t2585.1] : List Int), box b0 130 [p0_0, .int .i64 t2585.2], own kInt 2 v2582 ([0, 61, 5] : List Int), box b2518 51 [.int .i64 t2508.1.fPrev, .int .i64 t2508.1.fHeight, .int .i64 t2508.1.fMiner, u2510], own kInt 2 u2510 t2508.1.fTxs]) HM
              replace HM := HM.front 4 rfl rfl
              refine drw_any [6] (by kernel_rfl) rfl (.cons ?_ .nil)
              refine br_does (l' := #[true, true, true, true, true, true, true, false, false]) rfl (guard_none rfl) rfl rfl (by kernel_rfl) (does_appendR kInt flat_plain rfl rfl rfl Tryd.underlying38 tsz2 rfl tby2 tz2 rfl rfl (leB_le e2596) (HM.own_rd 1 rfl) HM) ?_
              rintro v2597 w2602 HM
              refine ⟨Mem.suf (M := [own kInt 2 v2597 (t2508.1.fTxs ++ ([t2585.1] : List Int)), own kInt 2 v2593 ([t2585.1] : List Int), box b0 130 [p0_0, .int .i64 t2585.2], own kInt 2 v2582 ([0, 61, 5] : List Int), box b2518 51 [.int .i64 t2508.1.fPrev, .int .i64 t2508.1.fHeight, .int .i64 t2508.1.fMiner, u2510]]) HM, ?_⟩
              have hS := Mem.suf (M := [own kInt 2 v2597 (t2508.1.fTxs ++ ([t2585.1] : List Int)), own kInt 2 v2593 ([t2585.1] : List Int), box b0 130 [p0_0, .int .i64 t2585.2], own kInt 2 v2582 ([0, 61, 5] : List Int), box b2518 51 [.int .i64 t2508.1.fPrev, .int .i64 t2508.1.fHeight, .int .i64 t2508.1.fMiner, u2510]]) HM
              refine drw_take (i := 7) (l' := #[true, true, true, true, true, true, true, true, false]) rfl (guard_none rfl) rfl rfl (by kernel_rfl) (fun w_ hS_ => (ex_fieldAddr (off' := 3) rfl rfl Tryd.underlying51 rfl tsz38 rfl)) hS ?_
              replace HM := HM.front 4 rfl rfl
              refine drw_any [8] (by kernel_rfl) rfl (.cons ?_ .nil)
              refine br_doesS (l' := #[true, true, true, true, true, true, true, true, true]) rfl (guard_none rfl) rfl (by kernel_rfl) (does_store (vs := [v2597]) (cs' := [.int .i64 t2508.1.fPrev, .int .i64 t2508.1.fHeight, .int .i64 t2508.1.fMiner, v2597]) rfl rfl rfl (rd_cells (HM.own_rd 1 rfl)) tsz38 (Ones.rd (HM.own_rd 1 rfl) Ones.nil) rfl rfl HM) ?_
              rintro w2603 HM
              refine ⟨Mem.suf (M := [box b2518 51 [.int .i64 t2508.1.fPrev, .int .i64 t2508.1.fHeight, .int .i64 t2508.1.fMiner, v2597], own kInt 2 v2597 (t2508.1.fTxs ++ ([t2585.1] : List Int)), own kInt 2 v2593 ([t2585.1] : List Int), box b0 130 [p0_0, .int .i64 t2585.2], own kInt 2 v2582 ([0, 61, 5] : List Int)]) HM, ?_⟩
              have hS := Mem.suf (M := [box b2518 51 [.int .i64 t2508.1.fPrev, .int .i64 t2508.1.fHeight, .int .i64 t2508.1.fMiner, v2597], own kInt 2 v2597 (t2508.1.fTxs ++ ([t2585.1] : List Int)), own kInt 2 v2593 ([t2585.1] : List Int), box b0 130 [p0_0, .int .i64 t2585.2], own kInt 2 v2582 ([0, 61, 5] : List Int)]) HM
              refine drw_done (by kernel_rfl) ?_
              replace HM := (HM.front 2 rfl rfl).drop
              replace HM := (HM.front 3 rfl rfl).drop
              replace HM := HM.front 1 rfl rfl
              replace HM := HM.front 1 rfl rfl
              replace HM := HM.front 3 rfl rfl
              replace HM := HM.front 3 rfl rfl
              exact at_meet [(2, .pointer (some ⟨b2504, 0, none⟩)), (3, .pointer (some ⟨b2518, 0, none⟩))] ⟨_, rfl, HM⟩ (Sub.cons rfl (Sub.cons rfl Sub.nil))
            · skip
              refine br_does (l' := #[true, false, true, true, false, false, false, false, false]) rfl (guard_none rfl) rfl rfl (by kernel_rfl) (does_lit (e := 2) (cs := [.int .i64 0, .int .i64 61, .int .i64 5]) (xs := ([0, 61, 5] : List Int)) kInt rfl rfl (fun _ => by kernel_rfl) rfl rfl (fun _ _ h => by have h' : _ = [] := h; subst h'; exact (Elems.cons (d := kInt) (x := 0) (f := []) ⟨rfl, rfl⟩ (Elems.cons (d := kInt) (x := 61) (f := []) ⟨rfl, rfl⟩ (Elems.cons (d := kInt) (x := 5) (f := []) ⟨rfl, rfl⟩ .nil)))) HM.emp) ?_
              rintro v2582 w2604 HM
              refine ⟨Mem.suf (M := [own kInt 2 v2582 ([0, 61, 5] : List Int), box b0 130 [p0_0, .int .i64 t2524.2], box b2518 51 [.int .i64 t2508.1.fPrev, .int .i64 t2508.1.fHeight, .int .i64 t2508.1.fMiner, u2510], own kInt 2 u2510 t2508.1.fTxs]) HM, ?_⟩
              have hS := Mem.suf (M := [own kInt 2 v2582 ([0, 61, 5] : List Int), box b0 130 [p0_0, .int .i64 t2524.2], box b2518 51 [.int .i64 t2508.1.fPrev, .int .i64 t2508.1.fHeight, .int .i64 t2508.1.fMiner, u2510], own kInt 2 u2510 t2508.1.fTxs]) HM
              refine drw_any [1, 4] (by kernel_rfl) rfl (.cons ?_ (.cons ?_ .nil))
              · skip
                refine br_does (l' := #[true, true, true, true, false, false, false, false, false]) rfl (guard_none rfl) rfl rfl (by kernel_rfl) (does_ex' (ex_load1 rfl rfl Tryd.underlying38 rfl ((HM.box_at 2 rfl) 3 _ rfl))) ?_
                rintro _ _ ⟨rfl, rfl⟩
                refine ⟨hS, ?_⟩
                replace HM := HM.front 1 rfl rfl
                obtain ⟨F2587, hF2588, hFn2589, hFl2590, HMh2591, hcl2592⟩ := HM.hide (Ms := [box b0 130 [p0_0, .int .i64 t2524.2]])
                refine drw_any [4] (by kernel_rfl) rfl (.cons ?_ .nil)
                refine br_does (l' := #[true, true, true, true, true, false, false, false, false]) rfl (guard_none rfl) rfl rfl (by kernel_rfl) (does_callk rfl callok48 rfl (spec_l1Pick.calls (x0 := (⟨x0.fCode, t2524.2⟩ : l1Src)) (x1 := ([0, 61, 5] : List Int)) (hide_olds _ _) hF2588 hFn2589 hFl2590 (HMh2591.rdo hwo hp0_0) (HMh2591.own_rd 0 rfl) h2586)) ?_
                rintro _ w2605 ⟨rfl, hn⟩
                replace HM : Mem w X w2605 [box b0 130 [p0_0, .int .i64 t2585.2], own kInt 2 v2582 ([0, 61, 5] : List Int), box b2518 51 [.int .i64 t2508.1.fPrev, .int .i64 t2508.1.fHeight, .int .i64 t2508.1.fMiner, u2510], own kInt 2 u2510 t2508.1.fTxs, box b2504 51 [.int .i64 0, .int .i64 0, .int .i64 0, .slice none 0 0]] := hcl2592 _ _ hn
                refine ⟨Mem.suf (M := [box b0 130 [p0_0, .int .i64 t2585.2], own kInt 2 v2582 ([0, 61, 5] : List Int), box b2518 51 [.int .i64 t2508.1.fPrev, .int .i64 t2508.1.fHeight, .int .i64 t2508.1.fMiner, u2510], own kInt 2 u2510 t2508.1.fTxs]) HM, ?_⟩
                have hS := Mem.suf (M := [box b0 130 [p0_0, .int .i64 t2585.2], own kInt 2 v2582 ([0, 61, 5] : List Int), box b2518 51 [.int .i64 t2508.1.fPrev, .int .i64 t2508.1.fHeight, .int .i64 t2508.1.fMiner, u2510], own kInt 2 u2510 t2508.1.fTxs]) HM
                refine drw_any [5] (by kernel_rfl) rfl (.cons ?_ .nil)
                refine br_does (l' := #[true, true, true, true, true, true, false, false, false]) rfl (guard_none rfl) rfl rfl (by kernel_rfl) (does_lit (e := 2) (cs := [.int .i64 t2585.1]) (xs := ([t2585.1] : List Int)) kInt rfl rfl (fun _ => by kernel_rfl) rfl rfl (fun _ _ h => by have h' : _ = [] := h; subst h'; exact (Elems.cons (d := kInt) (x := t2585.1) (f := []) ⟨rfl, rfl⟩ .nil)) HM.emp) ?_
                rintro v2593 w2606 HM
                refine ⟨Mem.suf (M := [own kInt 2 v2593 ([t2585.1] : List Int), box b0 130 [p0_0, .int .i64 t2585.2], own kInt 2 v2582 ([0, 61, 5] : List Int), box b2518 51 [.int .i64 t2508.1.fPrev, .int .i64 t2508.1.fHeight, .int .i64 t2508.1.fMiner, u2510], own kInt 2 u2510 t2508.1.fTxs]) HM, ?_⟩
                have hS := Mem.suf (M := [own kInt 2 v2593 ([t2585.1] : List Int), box b0 130 [p0_0, .int .i64 t2585.2], own kInt 2 v2582 ([0, 61, 5] : List Int), box b2518 51 [.int .i64 t2508.1.fPrev, .int .i64 t2508.1.fHeight, .int .i64 t2508.1.fMiner, u2510], own kInt 2 u2510 t2508.1.fTxs]) HM
                replace HM := HM.front 4 rfl rfl
                refine drw_any [6] (by kernel_rfl) rfl (.cons ?_ .nil)
                refine br_does (l' := #[true, true, true, true, true, true, true, false, false]) rfl (guard_none rfl) rfl rfl (by kernel_rfl) (does_appendR kInt flat_plain rfl rfl rfl Tryd.underlying38 tsz2 rfl tby2 tz2 rfl rfl (leB_le e2596) (HM.own_rd 1 rfl) HM) ?_
                rintro v2597 w2607 HM
                refine ⟨Mem.suf (M := [own kInt 2 v2597 (t2508.1.fTxs ++ ([t2585.1] : List Int)), own kInt 2 v2593 ([t2585.1] : List Int), box b0 130 [p0_0, .int .i64 t2585.2], own kInt 2 v2582 ([0, 61, 5] : List Int), box b2518 51 [.int .i64 t2508.1.fPrev, .int .i64 t2508.1.fHeight, .int .i64 t2508.1.fMiner, u2510]]) HM, ?_⟩
                have hS := Mem.suf (M := [own kInt 2 v2597 (t2508.1.fTxs ++ ([t2585.1] : List Int)), own kInt 2 v2593 ([t2585.1] : List Int), box b0 130 [p0_0, .int .i64 t2585.2], own kInt 2 v2582 ([0, 61, 5] : List Int), box b2518 51 [.int .i64 t2508.1.fPrev, .int .i64 t2508.1.fHeight, .int .i64 t2508.1.fMiner, u2510]]) HM
                refine drw_take (i := 7) (l' := #[true, true, true, true, true, true, true, true, false]) rfl (guard_none rfl) rfl rfl (by kernel_rfl) (fun w_ hS_ => (ex_fieldAddr (off' := 3) rfl rfl Tryd.underlying51 rfl tsz38 rfl)) hS ?_
                replace HM := HM.front 4 rfl rfl
                refine drw_any [8] (by kernel_rfl) rfl (.cons ?_ .nil)
                refine br_doesS (l' := #[true, true, true, true, true, true, true, true, true]) rfl (guard_none rfl) rfl (by kernel_rfl) (does_store (vs := [v2597]) (cs' := [.int .i64 t2508.1.fPrev, .int .i64 t2508.1.fHeight, .int .i64 t2508.1.fMiner, v2597]) rfl rfl rfl (rd_cells (HM.own_rd 1 rfl)) tsz38 (Ones.rd (HM.own_rd 1 rfl) Ones.nil) rfl rfl HM) ?_
                rintro w2608 HM
                refine ⟨Mem.suf (M := [box b2518 51 [.int .i64 t2508.1.fPrev, .int .i64 t2508.1.fHeight, .int .i64 t2508.1.fMiner, v2597], own kInt 2 v2597 (t2508.1.fTxs ++ ([t2585.1] : List Int)), own kInt 2 v2593 ([t2585.1] : List Int), box b0 130 [p0_0, .int .i64 t2585.2], own kInt 2 v2582 ([0, 61, 5] : List Int)]) HM, ?_⟩
                have hS := Mem.suf (M := [box b2518 51 [.int .i64 t2508.1.fPrev, .int .i64 t2508.1.fHeight, .int .i64 t2508.1.fMiner, v2597], own kInt 2 v2597 (t2508.1.fTxs ++ ([t2585.1] : List Int)), own kInt 2 v2593 ([t2585.1] : List Int), box b0 130 [p0_0, .int .i64 t2585.2], own kInt 2 v2582 ([0, 61, 5] : List Int)]) HM
                refine drw_done (by kernel_rfl) ?_
                replace HM := (HM.front 2 rfl rfl).drop
                replace HM := (HM.front 3 rfl rfl).drop
                replace HM := HM.front 1 rfl rfl
                replace HM := HM.front 1 rfl rfl
                replace HM := HM.front 3 rfl rfl
                replace HM := HM.front 3 rfl rfl
                exact at_meet [(2, .pointer (some ⟨b2504, 0, none⟩)), (3, .pointer (some ⟨b2518, 0, none⟩))] ⟨_, rfl, HM⟩ (Sub.cons rfl (Sub.cons rfl Sub.nil))
              · skip
                replace HM := HM.front 1 rfl rfl
                obtain ⟨F2587, hF2588, hFn2589, hFl2590, HMh2591, hcl2592⟩ := HM.hide (Ms := [box b0 130 [p0_0, .int .i64 t2524.2]])
                refine br_does (l' := #[true, false, true, true, true, false, false, false, false]) rfl (guard_none rfl) rfl rfl (by kernel_rfl) (does_callk rfl callok48 rfl (spec_l1Pick.calls (x0 := (⟨x0.fCode, t2524.2⟩ : l1Src)) (x1 := ([0, 61, 5] : List Int)) (hide_olds _ _) hF2588 hFn2589 hFl2590 (HMh2591.rdo hwo hp0_0) (HMh2591.own_rd 0 rfl) h2586)) ?_
                rintro _ w2609 ⟨rfl, hn⟩
                replace HM : Mem w X w2609 [box b0 130 [p0_0, .int .i64 t2585.2], own kInt 2 v2582 ([0, 61, 5] : List Int), box b2518 51 [.int .i64 t2508.1.fPrev, .int .i64 t2508.1.fHeight, .int .i64 t2508.1.fMiner, u2510], own kInt 2 u2510 t2508.1.fTxs, box b2504 51 [.int .i64 0, .int .i64 0, .int .i64 0, .slice none 0 0]] := hcl2592 _ _ hn
                refine ⟨Mem.suf (M := [box b0 130 [p0_0, .int .i64 t2585.2], own kInt 2 v2582 ([0, 61, 5] : List Int), box b2518 51 [.int .i64 t2508.1.fPrev, .int .i64 t2508.1.fHeight, .int .i64 t2508.1.fMiner, u2510], own kInt 2 u2510 t2508.1.fTxs]) HM, ?_⟩
                have hS := Mem.suf (M := [box b0 130 [p0_0, .int .i64 t2585.2], own kInt 2 v2582 ([0, 61, 5] : List Int), box b2518 51 [.int .i64 t2508.1.fPrev, .int .i64 t2508.1.fHeight, .int .i64 t2508.1.fMiner, u2510], own kInt 2 u2510 t2508.1.fTxs]) HM
                refine drw_any [1, 5] (by kernel_rfl) rfl (.cons ?_ (.cons ?_ .nil))
                · skip
                  refine br_does (l' := #[true, true, true, true, true, false, false, false, false]) rfl (guard_none rfl) rfl rfl (by kernel_rfl) (does_ex' (ex_load1 rfl rfl Tryd.underlying38 rfl ((HM.box_at 2 rfl) 3 _ rfl))) ?_
                  rintro _ _ ⟨rfl, rfl⟩
                  refine ⟨hS, ?_⟩
                  refine drw_any [5] (by kernel_rfl) rfl (.cons ?_ .nil)
                  refine br_does (l' := #[true, true, true, true, true, true, false, false, false]) rfl (guard_none rfl) rfl rfl (by kernel_rfl) (does_lit (e := 2) (cs := [.int .i64 t2585.1]) (xs := ([t2585.1] : List Int)) kInt rfl rfl (fun _ => by kernel_rfl) rfl rfl (fun _ _ h => by have h' : _ = [] := h; subst h'; exact (Elems.cons (d := kInt) (x := t2585.1) (f := []) ⟨rfl, rfl⟩ .nil)) HM.emp) ?_
                  rintro v2593 w2610 HM
                  refine ⟨Mem.suf (M := [own kInt 2 v2593 ([t2585.1] : List Int), box b0 130 [p0_0, .int .i64 t2585.2], own kInt 2 v2582 ([0, 61, 5] : List Int), box b2518 51 [.int .i64 t2508.1.fPrev, .int .i64 t2508.1.fHeight, .int .i64 t2508.1.fMiner, u2510], own kInt 2 u2510 t2508.1.fTxs]) HM, ?_⟩
                  have hS := Mem.suf (M := [own kInt 2 v2593 ([t2585.1] : List Int), box b0 130 [p0_0, .int .i64 t2585.2], own kInt 2 v2582 ([0, 61, 5] : List Int), box b2518 51 [.int .i64 t2508.1.fPrev, .int .i64 t2508.1.fHeight, .int .i64 t2508.1.fMiner, u2510], own kInt 2 u2510 t2508.1.fTxs]) HM
                  replace HM := HM.front 4 rfl rfl
                  refine drw_any [6] (by kernel_rfl) rfl (.cons ?_ .nil)
                  refine br_does (l' := #[true, true, true, true, true, true, true, false, false]) rfl (guard_none rfl) rfl rfl (by kernel_rfl) (does_appendR kInt flat_plain rfl rfl rfl Tryd.underlying38 tsz2 rfl tby2 tz2 rfl rfl (leB_le e2596) (HM.own_rd 1 rfl) HM) ?_
                  rintro v2597 w2611 HM
                  refine ⟨Mem.suf (M := [own kInt 2 v2597 (t2508.1.fTxs ++ ([t2585.1] : List Int)), own kInt 2 v2593 ([t2585.1] : List Int), box b0 130 [p0_0, .int .i64 t2585.2], own kInt 2 v2582 ([0, 61, 5] : List Int), box b2518 51 [.int .i64 t2508.1.fPrev, .int .i64 t2508.1.fHeight, .int .i64 t2508.1.fMiner, u2510]]) HM, ?_⟩
                  have hS := Mem.suf (M := [own kInt 2 v2597 (t2508.1.fTxs ++ ([t2585.1] : List Int)), own kInt 2 v2593 ([t2585.1] : List Int), box b0 130 [p0_0, .int .i64 t2585.2], own kInt 2 v2582 ([0, 61, 5] : List Int), box b2518 51 [.int .i64 t2508.1.fPrev, .int .i64 t2508.1.fHeight, .int .i64 t2508.1.fMiner, u2510]]) HM
                  refine drw_take (i := 7) (l' := #[true, true, true, true, true, true, true, true, false]) rfl (guard_none rfl) rfl rfl (by kernel_rfl) (fun w_ hS_ => (ex_fieldAddr (off' := 3) rfl rfl Tryd.underlying51 rfl tsz38 rfl)) hS ?_
                  replace HM := HM.front 4 rfl rfl
                  refine drw_any [8] (by kernel_rfl) rfl (.cons ?_ .nil)
                  refine br_doesS (l' := #[true, true, true, true, true, true, true, true, true]) rfl (guard_none rfl) rfl (by kernel_rfl) (does_store (vs := [v2597]) (cs' := [.int .i64 t2508.1.fPrev, .int .i64 t2508.1.fHeight, .int .i64 t2508.1.fMiner, v2597]) rfl rfl rfl (rd_cells (HM.own_rd 1 rfl)) tsz38 (Ones.rd (HM.own_rd 1 rfl) Ones.nil) rfl rfl HM) ?_
                  rintro w2612 HM
                  refine ⟨Mem.suf (M := [box b2518 51 [.int .i64 t2508.1.fPrev, .int .i64 t2508.1.fHeight, .int .i64 t2508.1.fMiner, v2597], own kInt 2 v2597 (t2508.1.fTxs ++ ([t2585.1] : List Int)), own kInt 2 v2593 ([t2585.1] : List Int), box b0 130 [p0_0, .int .i64 t2585.2], own kInt 2 v2582 ([0, 61, 5] : List Int)]) HM, ?_⟩
                  have hS := Mem.suf (M := [box b2518 51 [.int .i64 t2508.1.fPrev, .int .i64 t2508.1.fHeight, .int .i64 t2508.1.fMiner, v2597], own kInt 2 v2597 (t2508.1.fTxs ++ ([t2585.1] : List Int)), own kInt 2 v2593 ([t2585.1] : List Int), box b0 130 [p0_0, .int .i64 t2585.2], own kInt 2 v2582 ([0, 61, 5] : List Int)]) HM
                  refine drw_done (by kernel_rfl) ?_
                  replace HM := (HM.front 2 rfl rfl).drop
                  replace HM := (HM.front 3 rfl rfl).drop
                  replace HM := HM.front 1 rfl rfl
                  replace HM := HM.front 1 rfl rfl
                  replace HM := HM.front 3 rfl rfl
                  replace HM := HM.front 3 rfl rfl
                  exact at_meet [(2, .pointer (some ⟨b2504, 0, none⟩)), (3, .pointer (some ⟨b2518, 0, none⟩))] ⟨_, rfl, HM⟩ (Sub.cons rfl (Sub.cons rfl Sub.nil))
                · skip
                  refine br_does (l' := #[true, false, true, true, true, true, false, false, false]) rfl (guard_none rfl) rfl rfl (by kernel_rfl) (does_lit (e := 2) (cs := [.int .i64 t2585.1]) (xs := ([t2585.1] : List Int)) kInt rfl rfl (fun _ => by kernel_rfl) rfl rfl (fun _ _ h => by have h' : _ = [] := h; subst h'; exact (Elems.cons (d := kInt) (x := t2585.1) (f := []) ⟨rfl, rfl⟩ .nil)) HM.emp) ?_
                  rintro v2593 w2613 HM
                  refine ⟨Mem.suf (M := [own kInt 2 v2593 ([t2585.1] : List Int), box b0 130 [p0_0, .int .i64 t2585.2], own kInt 2 v2582 ([0, 61, 5] : List Int), box b2518 51 [.int .i64 t2508.1.fPrev, .int .i64 t2508.1.fHeight, .int .i64 t2508.1.fMiner, u2510], own kInt 2 u2510 t2508.1.fTxs]) HM, ?_⟩
                  have hS := Mem.suf (M := [own kInt 2 v2593 ([t2585.1] : List Int), box b0 130 [p0_0, .int .i64 t2585.2], own kInt 2 v2582 ([0, 61, 5] : List Int), box b2518 51 [.int .i64 t2508.1.fPrev, .int .i64 t2508.1.fHeight, .int .i64 t2508.1.fMiner, u2510], own kInt 2 u2510 t2508.1.fTxs]) HM
                  refine drw_any [1] (by kernel_rfl) rfl (.cons ?_ .nil)
                  refine br_does (l' := #[true, true, true, true, true, true, false, false, false]) rfl (guard_none rfl) rfl rfl (by kernel_rfl) (does_ex' (ex_load1 rfl rfl Tryd.underlying38 rfl ((HM.box_at 3 rfl) 3 _ rfl))) ?_
                  rintro _ _ ⟨rfl, rfl⟩
                  refine ⟨hS, ?_⟩
                  replace HM := HM.front 4 rfl rfl
                  refine drw_any [6] (by kernel_rfl) rfl (.cons ?_ .nil)
                  refine br_does (l' := #[true, true, true, true, true, true, true, false, false]) rfl (guard_none rfl) rfl rfl (by kernel_rfl) (does_appendR kInt flat_plain rfl rfl rfl Tryd.underlying38 tsz2 rfl tby2 tz2 rfl rfl (leB_le e2596) (HM.own_rd 1 rfl) HM) ?_
                  rintro v2597 w2614 HM
                  refine ⟨Mem.suf (M := [own kInt 2 v2597 (t2508.1.fTxs ++ ([t2585.1] : List Int)), own kInt 2 v2593 ([t2585.1] : List Int), box b0 130 [p0_0, .int .i64 t2585.2], own kInt 2 v2582 ([0, 61, 5] : List Int), box b2518 51 [.int .i64 t2508.1.fPrev, .int .i64 t2508.1.fHeight, .int .i64 t2508.1.fMiner, u2510]]) HM, ?_⟩
                  have hS := Mem.suf (M := [own kInt 2 v2597 (t2508.1.fTxs ++ ([t2585.1] : List Int)), own kInt 2 v2593 ([t2585.1] : List Int), box b0 130 [p0_0, .int .i64 t2585.2], own kInt 2 v2582 ([0, 61, 5] : List Int), box b2518 51 [.int .i64 t2508.1.fPrev, .int .i64 t2508.1.fHeight, .int .i64 t2508.1.fMiner, u2510]]) HM
                  refine drw_take (i := 7) (l' := #[true, true, true, true, true, true, true, true, false]) rfl (guard_none rfl) rfl rfl (by kernel_rfl) (fun w_ hS_ => (ex_fieldAddr (off' := 3) rfl rfl Tryd.underlying51 rfl tsz38 rfl)) hS ?_
                  replace HM := HM.front 4 rfl rfl
                  refine drw_any [8] (by kernel_rfl) rfl (.cons ?_ .nil)
                  refine br_doesS (l' := #[true, true, true, true, true, true, true, true, true]) rfl (guard_none rfl) rfl (by kernel_rfl) (does_store (vs := [v2597]) (cs' := [.int .i64 t2508.1.fPrev, .int .i64 t2508.1.fHeight, .int .i64 t2508.1.fMiner, v2597]) rfl rfl rfl (rd_cells (HM.own_rd 1 rfl)) tsz38 (Ones.rd (HM.own_rd 1 rfl) Ones.nil) rfl rfl HM) ?_
                  rintro w2615 HM
                  refine ⟨Mem.suf (M := [box b2518 51 [.int .i64 t2508.1.fPrev, .int .i64 t2508.1.fHeight, .int .i64 t2508.1.fMiner, v2597], own kInt 2 v2597 (t2508.1.fTxs ++ ([t2585.1] : List Int)), own kInt 2 v2593 ([t2585.1] : List Int), box b0 130 [p0_0, .int .i64 t2585.2], own kInt 2 v2582 ([0, 61, 5] : List Int)]) HM, ?_⟩
                  have hS := Mem.suf (M := [box b2518 51 [.int .i64 t2508.1.fPrev, .int .i64 t2508.1.fHeight, .int .i64 t2508.1.fMiner, v2597], own kInt 2 v2597 (t2508.1.fTxs ++ ([t2585.1] : List Int)), own kInt 2 v2593 ([t2585.1] : List Int), box b0 130 [p0_0, .int .i64 t2585.2], own kInt 2 v2582 ([0, 61, 5] : List Int)]) HM
                  refine drw_done (by kernel_rfl) ?_
                  replace HM := (HM.front 2 rfl rfl).drop
                  replace HM := (HM.front 3 rfl rfl).drop
                  replace HM := HM.front 1 rfl rfl
                  replace HM := HM.front 1 rfl rfl
                  replace HM := HM.front 3 rfl rfl
                  replace HM := HM.front 3 rfl rfl
                  exact at_meet [(2, .pointer (some ⟨b2504, 0, none⟩)), (3, .pointer (some ⟨b2518, 0, none⟩))] ⟨_, rfl, HM⟩ (Sub.cons rfl (Sub.cons rfl Sub.nil))
          · rintro _ w2616 ⟨v2597, rfl, HM⟩
            refine at_block ?_
            refine at_then ?_
            refine run_seq ?_
            refine run_region rfl ?_
            refine ops_ex rfl (guard_none rfl) rfl rfl (ex_loadN (cs := [(.int .i64 t2508.1.fPrev), (.int .i64 t2508.1.fHeight), (.int .i64 t2508.1.fMiner), v2597]) rfl rfl Tryd.underlying51 rfl tsz51 rfl ((HM.box_at 2 rfl).sub 0 4 rfl)) ?_
            replace HM := HM.front 1 rfl rfl
            refine ops_doesS rfl (guard_none rfl) rfl (does_store (vs := [.int .i64 t2508.1.fPrev, .int .i64 t2508.1.fHeight, .int .i64 t2508.1.fMiner, v2597]) (cs' := [.int .i64 t2508.1.fPrev, .int .i64 t2508.1.fHeight, .int .i64 t2508.1.fMiner, v2597]) rfl rfl rfl rfl tsz51 (Ones.int (Ones.int (Ones.int (Ones.rd (HM.own_rd 3 rfl) Ones.nil)))) rfl rfl HM) ?_
            rintro w2617 HM
            refine ops_nil ?_
            refine at_then ?_
            refine run_ret ?_
            replace HM := (HM.front 2 rfl rfl).drop
            replace HM := HM.front 1 rfl rfl
            replace HM := HM.front 2 rfl rfl
            replace HM := HM.front 2 rfl rfl
            have hcb0 := HM.box_at 0 rfl
            replace HM := (HM.front 0 rfl rfl).drop
            have hR := Option.some.inj H
            subst hR
            exact at_retN rfl rfl Tryd.underlying51 rfl tsz51 rfl hcb0 ⟨_, rfl, _, rfl, HM⟩
        · replace H := cond_f hb2581 H
          refine run_seq ?_
          refine run_region rfl ?_
          refine ops_ex rfl (guard_none rfl) rfl rfl (ex_eql rfl rfl rfl) ?_
          refine ops_ex rfl (guard_none rfl) rfl rfl (ex_assign rfl rfl) ?_
          refine ops_nil ?_
          refine at_then ?_
          refine run_cond (b := (t2524.1 == 4)) rfl (fun hb2618 => ?_) (fun hb2618 => ?_)
          · replace H := cond_t hb2618 H
            obtain ⟨e2622, H⟩ := chk_some H
            obtain ⟨e2623, H⟩ := chk_some H
            refine run_region rfl ?_
            refine ops_does rfl (guard_none rfl) rfl rfl (does_make (x := 0) kInt rfl rfl rfl Tryd.underlying38 tsz2 tby2 tz2 rfl rfl (fun _ => ⟨rfl, rfl⟩) (of_decide_eq_true e2622) rfl (leB_le e2623) rfl HM) ?_
            rintro v2619 w2624 HM
            refine ops_ex rfl (guard_none rfl) rfl rfl (ex_fieldAddr (off' := 3) rfl rfl Tryd.underlying51 rfl tsz38 rfl) ?_
            replace HM := HM.front 2 rfl rfl
            refine ops_doesS rfl (guard_none rfl) rfl (does_store (vs := [v2619]) (cs' := [.int .i64 t2508.1.fPrev, .int .i64 t2508.1.fHeight, .int .i64 t2508.1.fMiner, v2619]) rfl rfl rfl (rd_cells (HM.own_rd 1 rfl)) tsz38 (Ones.rd (HM.own_rd 1 rfl) Ones.nil) rfl rfl HM) ?_
            rintro w2625 HM
            refine ops_nil ?_
            refine at_block ?_
            refine at_then ?_
            refine run_seq ?_
            refine run_region rfl ?_
            refine ops_ex rfl (guard_none rfl) rfl rfl (ex_loadN (cs := [(.int .i64 t2508.1.fPrev), (.int .i64 t2508.1.fHeight), (.int .i64 t2508.1.fMiner), v2619]) rfl rfl Tryd.underlying51 rfl tsz51 rfl ((HM.box_at 0 rfl).sub 0 4 rfl)) ?_
            replace HM := HM.front 4 rfl rfl
            refine ops_doesS rfl (guard_none rfl) rfl (does_store (vs := [.int .i64 t2508.1.fPrev, .int .i64 t2508.1.fHeight, .int .i64 t2508.1.fMiner, v2619]) (cs' := [.int .i64 t2508.1.fPrev, .int .i64 t2508.1.fHeight, .int .i64 t2508.1.fMiner, v2619]) rfl rfl rfl rfl tsz51 (Ones.int (Ones.int (Ones.int (Ones.rd (HM.own_rd 2 rfl) Ones.nil)))) rfl rfl HM) ?_
            rintro w2626 HM
            refine ops_nil ?_
            refine at_then ?_
            refine run_ret ?_
            replace HM := (HM.front 1 rfl rfl).drop
            replace HM := (HM.front 3 rfl rfl).drop
            have hcb0 := HM.box_at 0 rfl
            replace HM := (HM.front 0 rfl rfl).drop
            have hR := Option.some.inj H
            subst hR
            exact at_retN rfl rfl Tryd.underlying51 rfl tsz51 rfl hcb0 ⟨_, rfl, _, rfl, HM⟩
          · replace H := cond_f hb2618 H
            refine run_skip ?_
            refine at_block ?_
            refine at_then ?_
            refine run_seq ?_
            refine run_region rfl ?_
            refine ops_ex rfl (guard_none rfl) rfl rfl (ex_loadN (cs := [(.int .i64 t2508.1.fPrev), (.int .i64 t2508.1.fHeight), (.int .i64 t2508.1.fMiner), u2510]) rfl rfl Tryd.underlying51 rfl tsz51 rfl ((HM.box_at 1 rfl).sub 0 4 rfl)) ?_
            replace HM := HM.front 3 rfl rfl
            refine ops_doesS rfl (guard_none rfl) rfl (does_store (vs := [.int .i64 t2508.1.fPrev, .int .i64 t2508.1.fHeight, .int .i64 t2508.1.fMiner, u2510]) (cs' := [.int .i64 t2508.1.fPrev, .int .i64 t2508.1.fHeight, .int .i64 t2508.1.fMiner, u2510]) rfl rfl rfl rfl tsz51 (Ones.int (Ones.int (Ones.int (Ones.rd (HM.own_rd 3 rfl) Ones.nil)))) rfl rfl HM) ?_
            rintro w2627 HM
            refine ops_nil ?_
            refine at_then ?_
            refine run_ret ?_
            replace HM := (HM.front 2 rfl rfl).drop
            replace HM := HM.front 1 rfl rfl
            replace HM := HM.front 2 rfl rfl
            replace HM := HM.front 2 rfl rfl
            have hcb0 := HM.box_at 0 rfl
            replace HM := (HM.front 0 rfl rfl).drop
            have hR := Option.some.inj H
            subst hR
            exact at_retN rfl rfl Tryd.underlying51 rfl tsz51 rfl hcb0 ⟨_, rfl, _, rfl, HM⟩

def spec_DrawBlockText.f (k : Nat) (x0 : List Int) : Option Block := ((spec_l1Source.f k x0).bind fun t2642 => ((spec_l7Bent.f k (⟨x0, t2642⟩ : l1Src)).bind fun t2646 => some (⟨t2646.1.fPrev, t2646.1.fHeight, t2646.1.fMiner, t2646.1.fTxs⟩ : Block)))
theorem spec_DrawBlockText.calls {k : Nat} {x0 : List Int} {p0 : Value} {w : World} (hp0 : RdS kU8 w p0 x0) {r : Block} (H : spec_DrawBlockText.f k x0 = some r) :
    Calls Tryd.prog 22 ([p0] : List Value).toArray w (fun e w_ => ∃ v, e = .returned v ∧ ∃ u0 : Value, v = (.agg #[.int .i64 r.fPrev, .int .i64 r.fHeight, .int .i64 r.fMiner, u0]) ∧ Mem w [] w_ [own kInt 2 u0 r.fTxs]) := by
  have HM := Mem.start w
  refine calls_run (N := 6) Tryd.func22 rfl rfl rfl rfl ?_
  unfold spec_DrawBlockText.f at H
  refine run_seq ?_
  refine run_region rfl ?_
  refine ops_does rfl (guard_none rfl) rfl rfl (does_alloc (cs := [.int .i64 0, .int .i64 0, .int .i64 0, .slice none 0 0]) rfl tz51 rfl HM) ?_
  rintro _ w2641 ⟨b2638, rfl, HM⟩
  refine ops_nil ?_
  refine at_then ?_
  refine run_seq ?_
  obtain ⟨t2642, h2643, H⟩ := bind_some H
  obtain ⟨t2646, h2647, H⟩ := bind_some H
  refine run_region rfl ?_
  refine ops_ex rfl (guard_none rfl) rfl rfl (ex_move rfl rfl) ?_
  refine ops_does rfl (guard_none rfl) rfl rfl (does_callk rfl callok44 rfl (spec_l1Source.calls (x0 := x0) (HM.rd hp0) h2643)) ?_
  rintro _ w2656 ⟨b2644, rfl, hn⟩
  replace HM : Mem w [] w2656 [box b2644 130 [p0, .int .i64 t2642], box b2638 51 [.int .i64 0, .int .i64 0, .int .i64 0, .slice none 0 0]] := HM.call hn
  obtain ⟨F2650, hF2651, hFn2652, hFl2653, HMh2654, hcl2655⟩ := HM.hide (Ms := [box b2644 130 [p0, .int .i64 t2642]])
  refine ops_does rfl (guard_none rfl) rfl rfl (does_callk rfl callok52 rfl (spec_l7Bent.calls (x0 := (⟨x0, t2642⟩ : l1Src)) (hide_olds _ _) hF2651 hFn2652 hFl2653 (HMh2654.rd hp0) h2647)) ?_
  rintro _ w2657 ⟨u2648, rfl, hn⟩
  replace HM : Mem w [] w2657 [own kInt 2 u2648 t2646.1.fTxs, box b2644 130 [p0, .int .i64 t2646.2], box b2638 51 [.int .i64 0, .int .i64 0, .int .i64 0, .slice none 0 0]] := hcl2655 _ _ hn
  replace HM := HM.front 2 rfl rfl
  refine ops_doesS rfl (guard_none rfl) rfl (does_store (vs := [.int .i64 t2646.1.fPrev, .int .i64 t2646.1.fHeight, .int .i64 t2646.1.fMiner, u2648]) (cs' := [.int .i64 t2646.1.fPrev, .int .i64 t2646.1.fHeight, .int .i64 t2646.1.fMiner, u2648]) rfl rfl rfl rfl tsz51 (Ones.int (Ones.int (Ones.int (Ones.rd (HM.own_rd 1 rfl) Ones.nil)))) rfl rfl HM) ?_
  rintro w2658 HM
  refine ops_nil ?_
  refine at_then ?_
  refine run_ret ?_
  replace HM := (HM.front 2 rfl rfl).drop
  have hcb0 := HM.box_at 0 rfl
  replace HM := (HM.front 0 rfl rfl).drop
  have hR := Option.some.inj H
  subst hR
  exact at_retN rfl rfl Tryd.underlying51 rfl tsz51 rfl hcb0 ⟨_, rfl, _, rfl, HM⟩

def spec_BlockText.f (k : Nat) (x0 : Block) : Option TextResult := ((spec_l7Fault.f k x0).bind fun t2691 => (bif (t2691 != 0) then some (⟨t2691, (⟨#[]⟩ : ByteArray)⟩ : TextResult) else ((spec_l7Text.f k x0).bind fun t2696 => some (⟨0, t2696⟩ : TextResult))))
theorem spec_BlockText.calls {k : Nat} {x0 : Block} {p0_0 : Value} {w : World} (hp0_0 : RdS kInt w p0_0 x0.fTxs) {r : TextResult} (H : spec_BlockText.f k x0 = some r) :
    Calls Tryd.prog 23 ([.agg #[(.int .i64 x0.fPrev), (.int .i64 x0.fHeight), (.int .i64 x0.fMiner), p0_0]] : List Value).toArray w (fun e w_ => ∃ v, e = .returned v ∧ v = (.agg #[.int .i64 r.fCode, .string r.fText]) ∧ Mem w [] w_ []) := by
  have HM := Mem.start w
  refine calls_run (N := 11) Tryd.func23 rfl rfl rfl rfl ?_
  unfold spec_BlockText.f at H
  refine run_seq ?_
  refine run_region rfl ?_
  refine ops_does rfl (guard_none rfl) rfl rfl (does_box (cs := [.int .i64 x0.fPrev, .int .i64 x0.fHeight, .int .i64 x0.fMiner, p0_0]) rfl rfl rfl HM) ?_
  rintro _ w2689 ⟨b2683, rfl, HM⟩
  refine ops_does rfl (guard_none rfl) rfl rfl (does_alloc (cs := [.int .i64 0, .string (⟨#[]⟩ : ByteArray)]) rfl tz28 rfl HM) ?_
  rintro _ w2690 ⟨b2686, rfl, HM⟩
  refine ops_nil ?_
  refine at_then ?_
  refine run_seq ?_
  refine run_seq ?_
  obtain ⟨t2691, h2692, H⟩ := bind_some H
  refine run_region rfl ?_
  refine ops_does rfl (guard_none rfl) rfl rfl (does_callk rfl callok53 rfl (spec_l7Fault.calls (x0 := x0) (HM.box_at 1 rfl) (HM.rd hp0_0) h2692)) ?_
  rintro _ w2693 ⟨rfl, hn⟩
  replace HM : Mem w [] w2693 [box b2686 28 [.int .i64 0, .string (⟨#[]⟩ : ByteArray)], box b2683 51 [.int .i64 x0.fPrev, .int .i64 x0.fHeight, .int .i64 x0.fMiner, p0_0]] := HM.call hn
  refine ops_ex rfl (guard_none rfl) rfl rfl (ex_assign rfl rfl) ?_
  refine ops_nil ?_
  refine at_then ?_
  refine run_seq ?_
  refine run_region rfl ?_
  refine ops_ex rfl (guard_none rfl) rfl rfl (ex_move rfl rfl) ?_
  refine ops_ex rfl (guard_none rfl) rfl rfl (ex_neq rfl rfl rfl) ?_
  refine ops_nil ?_
  refine at_then ?_
  refine run_cond (b := (t2691 != 0)) rfl (fun hb2694 => ?_) (fun hb2694 => ?_)
  · replace H := cond_t hb2694 H
    refine run_seq ?_
    refine run_region rfl ?_
    refine ops_ex rfl (guard_none rfl) rfl rfl (ex_move rfl rfl) ?_
    refine ops_ex rfl (guard_none rfl) rfl rfl (ex_build (cells := #[(.int .i64 t2691), (.string (⟨#[]⟩ : ByteArray))]) rfl rfl (by kernel_rfl)) ?_
    refine ops_doesS rfl (guard_none rfl) rfl (does_store (vs := [.int .i64 t2691, .string (⟨#[]⟩ : ByteArray)]) (cs' := [.int .i64 t2691, .string (⟨#[]⟩ : ByteArray)]) rfl rfl rfl rfl tsz28 (Ones.int (Ones.str Ones.nil)) rfl rfl HM) ?_
    rintro w2695 HM
    refine ops_nil ?_
    refine at_then ?_
    refine run_ret ?_
    refine at_then_ret ?_
    replace HM := (HM.front 1 rfl rfl).drop
    have hcb0 := HM.box_at 0 rfl
    replace HM := (HM.front 0 rfl rfl).drop
    have hR := Option.some.inj H
    subst hR
    exact at_retN rfl rfl Tryd.underlying28 rfl tsz28 rfl hcb0 ⟨_, rfl, rfl, HM⟩
  · replace H := cond_f hb2694 H
    refine run_skip ?_
    refine at_then ?_
    refine run_seq ?_
    obtain ⟨t2696, h2697, H⟩ := bind_some H
    refine run_region rfl ?_
    refine ops_does rfl (guard_none rfl) rfl rfl (does_callk rfl callok46 rfl (spec_l7Text.calls (x0 := x0) (HM.box_at 1 rfl) (HM.rd hp0_0) h2697)) ?_
    rintro _ w2698 ⟨rfl, hn⟩
    replace HM : Mem w [] w2698 [box b2686 28 [.int .i64 0, .string (⟨#[]⟩ : ByteArray)], box b2683 51 [.int .i64 x0.fPrev, .int .i64 x0.fHeight, .int .i64 x0.fMiner, p0_0]] := HM.call hn
    refine ops_ex rfl (guard_none rfl) rfl rfl (ex_build (cells := #[(.int .i64 0), (.string t2696)]) rfl rfl (by kernel_rfl)) ?_
    refine ops_doesS rfl (guard_none rfl) rfl (does_store (vs := [.int .i64 0, .string t2696]) (cs' := [.int .i64 0, .string t2696]) rfl rfl rfl rfl tsz28 (Ones.int (Ones.str Ones.nil)) rfl rfl HM) ?_
    rintro w2699 HM
    refine ops_nil ?_
    refine at_then ?_
    refine run_ret ?_
    replace HM := (HM.front 1 rfl rfl).drop
    have hcb0 := HM.box_at 0 rfl
    replace HM := (HM.front 0 rfl rfl).drop
    have hR := Option.some.inj H
    subst hR
    exact at_retN rfl rfl Tryd.underlying28 rfl tsz28 rfl hcb0 ⟨_, rfl, rfl, HM⟩

def spec_DrawRewardOf.f (k : Nat) (x0 : List Int) : Option Int := ((spec_l1Source.f k x0).bind fun t2747 => ((spec_l1Next.f k (⟨x0, t2747⟩ : l1Src) 40).bind fun t2752 => ((spec_l1Next.f k (⟨x0, t2752.2⟩ : l1Src) 40).bind fun t2760 => ((spec_l1Pick.f k (⟨x0, t2760.2⟩ : l1Src) ([wrap64 (1 + t2752.1), wrap64 (1 + t2760.1), 41, 0] : List Int)).bind fun t2771 => some t2771.1))))
theorem spec_DrawRewardOf.calls {k : Nat} {x0 : List Int} {p0 : Value} {w : World} (hp0 : RdS kU8 w p0 x0) {r : Int} (H : spec_DrawRewardOf.f k x0 = some r) :
    Calls Tryd.prog 25 ([p0] : List Value).toArray w (fun e w_ => ∃ v, e = .returned v ∧ v = (.int .i64 r) ∧ Mem w [] w_ []) := by
  have HM := Mem.start w
  refine calls_run (N := 15) Tryd.func25 rfl rfl rfl rfl ?_
  unfold spec_DrawRewardOf.f at H
  refine run_seq ?_
  refine run_region rfl ?_
  refine ops_ex rfl (guard_none rfl) rfl rfl (ex_assign rfl rfl) ?_
  refine ops_nil ?_
  refine at_then ?_
  refine run_seq ?_
  obtain ⟨t2747, h2748, H⟩ := bind_some H
  refine run_region rfl ?_
  refine ops_ex rfl (guard_none rfl) rfl rfl (ex_move rfl rfl) ?_
  refine ops_does rfl (guard_none rfl) rfl rfl (does_callk rfl callok44 rfl (spec_l1Source.calls (x0 := x0) (HM.rd hp0) h2748)) ?_
  rintro _ w2751 ⟨b2749, rfl, hn⟩
  replace HM : Mem w [] w2751 [box b2749 130 [p0, .int .i64 t2747]] := HM.call hn
  refine ops_ex rfl (guard_none rfl) rfl rfl (ex_assign rfl rfl) ?_
  refine ops_nil ?_
  refine at_then ?_
  refine run_seq ?_
  obtain ⟨t2752, h2753, H⟩ := bind_some H
  obtain ⟨t2760, h2761, H⟩ := bind_some H
  obtain ⟨t2771, h2772, H⟩ := bind_some H
  refine run_region rfl ?_
  refine ops_ex rfl (guard_none rfl) rfl rfl (ex_move rfl rfl) ?_
  refine ops_ex rfl (guard_none rfl) rfl rfl (ex_move rfl rfl) ?_
  obtain ⟨F2754, hF2755, hFn2756, hFl2757, HMh2758, hcl2759⟩ := HM.hide (Ms := [box b2749 130 [p0, .int .i64 t2747]])
  refine ops_does rfl (guard_none rfl) rfl rfl (does_callk rfl callok47 rfl (spec_l1Next.calls (x0 := (⟨x0, t2747⟩ : l1Src)) (x1 := 40) (hide_olds _ _) hF2755 hFn2756 hFl2757 (HMh2758.rd hp0) h2753)) ?_
  rintro _ w2779 ⟨rfl, hn⟩
  replace HM : Mem w [] w2779 [box b2749 130 [p0, .int .i64 t2752.2]] := hcl2759 _ _ hn
  refine ops_ex rfl (guard_none rfl) rfl rfl (ex_add rfl rfl rfl) ?_
  refine ops_ex rfl (guard_none rfl) rfl rfl (ex_move rfl rfl) ?_
  obtain ⟨F2762, hF2763, hFn2764, hFl2765, HMh2766, hcl2767⟩ := HM.hide (Ms := [box b2749 130 [p0, .int .i64 t2752.2]])
  refine ops_does rfl (guard_none rfl) rfl rfl (does_callk rfl callok47 rfl (spec_l1Next.calls (x0 := (⟨x0, t2752.2⟩ : l1Src)) (x1 := 40) (hide_olds _ _) hF2763 hFn2764 hFl2765 (HMh2766.rd hp0) h2761)) ?_
  rintro _ w2780 ⟨rfl, hn⟩
  replace HM : Mem w [] w2780 [box b2749 130 [p0, .int .i64 t2760.2]] := hcl2767 _ _ hn
  refine ops_ex rfl (guard_none rfl) rfl rfl (ex_add rfl rfl rfl) ?_
  refine ops_does rfl (guard_none rfl) rfl rfl (does_lit (e := 2) (cs := [.int .i64 (wrap64 (1 + t2752.1)), .int .i64 (wrap64 (1 + t2760.1)), .int .i64 41, .int .i64 0]) (xs := ([wrap64 (1 + t2752.1), wrap64 (1 + t2760.1), 41, 0] : List Int)) kInt rfl rfl (fun _ => by kernel_rfl) rfl rfl (fun _ _ h => by have h' : _ = [] := h; subst h'; exact (Elems.cons (d := kInt) (x := wrap64 (1 + t2752.1)) (f := []) ⟨rfl, rfl⟩ (Elems.cons (d := kInt) (x := wrap64 (1 + t2760.1)) (f := []) ⟨rfl, rfl⟩ (Elems.cons (d := kInt) (x := 41) (f := []) ⟨rfl, rfl⟩ (Elems.cons (d := kInt) (x := 0) (f := []) ⟨rfl, rfl⟩ .nil))))) HM.emp) ?_
  rintro v2768 w2781 HM
  replace HM := HM.front 1 rfl rfl
  obtain ⟨F2773, hF2774, hFn2775, hFl2776, HMh2777, hcl2778⟩ := HM.hide (Ms := [box b2749 130 [p0, .int .i64 t2760.2]])
  refine ops_does rfl (guard_none rfl) rfl rfl (does_callk rfl callok48 rfl (spec_l1Pick.calls (x0 := (⟨x0, t2760.2⟩ : l1Src)) (x1 := ([wrap64 (1 + t2752.1), wrap64 (1 + t2760.1), 41, 0] : List Int)) (hide_olds _ _) hF2774 hFn2775 hFl2776 (HMh2777.rd hp0) (HMh2777.own_rd 0 rfl) h2772)) ?_
  rintro _ w2782 ⟨rfl, hn⟩
  replace HM : Mem w [] w2782 [box b2749 130 [p0, .int .i64 t2771.2], own kInt 2 v2768 ([wrap64 (1 + t2752.1), wrap64 (1 + t2760.1), 41, 0] : List Int)] := hcl2778 _ _ hn
  refine ops_ex rfl (guard_none rfl) rfl rfl (ex_assign rfl rfl) ?_
  refine ops_nil ?_
  refine at_then ?_
  refine run_ret ?_
  replace HM := (HM.front 0 rfl rfl).drop
  replace HM := (HM.front 0 rfl rfl).drop
  have hR := Option.some.inj H
  subst hR
  exact at_ret1 rfl rfl ⟨_, rfl, rfl, HM⟩
end Go.Proofs.YtcpacdbdehphkaaDoor.Zk
