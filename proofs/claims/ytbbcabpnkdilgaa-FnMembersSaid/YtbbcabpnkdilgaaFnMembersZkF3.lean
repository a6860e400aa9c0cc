/- What functions of the program compute, each as a plain function, and that they do. Conditions: as each theorem states them. -/
import Derived.Test.YtbbcabpnkdilgaaFnMembersZkF2
namespace Go.Proofs.Ytbbcabpnkdilgaa.Zk
open Go Go.RowKit Go.IntWalk Go.Proofs
set_option linter.unusedVariables false
set_option linter.unusedSimpArgs false
set_option maxRecDepth 100000
set_option maxHeartbeats 4000000
def spec_l3Bent.f (k : Nat) (x0 : l1Src) : Option (Tx × Int) := ((spec_l3Draw.f k x0).bind fun t2334 => ((spec_l1Next.f k (⟨x0.fCode, t2334.2⟩ : l1Src) 14).bind fun t2352 => (bif (t2352.1 == 0) then ((spec_l1Pick.f k (⟨x0.fCode, t2352.2⟩ : l1Src) ([(-1), 3, 0, 1] : List Int)).bind fun t2365 => some ((⟨t2365.1, t2334.1.fMember, t2334.1.fIns, t2334.1.fOuts⟩ : Tx), t2365.2)) else (bif (t2352.1 == 1) then ((spec_l1Pick.f k (⟨x0.fCode, t2352.2⟩ : l1Src) ([0, 1000, 5] : List Int)).bind fun t2381 => some ((⟨t2334.1.fKind, t2381.1, t2334.1.fIns, t2334.1.fOuts⟩ : Tx), t2381.2)) else (bif (t2352.1 == 2) then ((spec_l1Pick.f k (⟨x0.fCode, t2352.2⟩ : l1Src) ([0, 61, 1] : List Int)).bind fun t2397 => ((spec_l1Pick.f k (⟨x0.fCode, t2397.2⟩ : l1Src) ([0, 4] : List Int)).bind fun t2408 => (chk (leB ((t2334.1.fIns.length + ([(⟨t2397.1, t2408.1⟩ : Ref)] : List Ref).length) * 16) 140737488355328) (some ((⟨t2334.1.fKind, t2334.1.fMember, t2334.1.fIns ++ ([(⟨t2397.1, t2408.1⟩ : Ref)] : List Ref), t2334.1.fOuts⟩ : Tx), t2408.2))))) else (bif (t2352.1 == 3) then ((spec_l1Pick.f k (⟨x0.fCode, t2352.2⟩ : l1Src) ([0, 1, 1000001, 99] : List Int)).bind fun t2486 => (chk (idxOk (0 : Int) t2334.1.fOuts.length) (some ((⟨t2334.1.fKind, t2334.1.fMember, t2334.1.fIns, t2334.1.fOuts.set ((0 : Int)).toNat (⟨t2486.1, (gt t2334.1.fOuts (0 : Int)).fRule⟩ : Out)⟩ : Tx), t2486.2)))) else (bif (t2352.1 == 4) then ((spec_l2Bent.f k (⟨x0.fCode, t2352.2⟩ : l1Src)).bind fun t2500 => (chk (idxOk (0 : Int) t2334.1.fOuts.length) (some ((⟨t2334.1.fKind, t2334.1.fMember, t2334.1.fIns, t2334.1.fOuts.set ((0 : Int)).toNat (⟨(gt t2334.1.fOuts (0 : Int)).fValue, (⟨t2500.1.fKeys, t2500.1.fNeed, t2500.1.fAfter⟩ : Rule)⟩ : Out)⟩ : Tx), t2500.2)))) else (bif (t2352.1 == 5) then some ((⟨t2334.1.fKind, t2334.1.fMember, ([] : List Ref), t2334.1.fOuts⟩ : Tx), t2352.2) else (bif (t2352.1 == 6) then (chk (decide (0 ≤ (5 : Int))) (chk (leB (((5 : Int)).toNat * 48) 281474976710656) (some ((⟨t2334.1.fKind, t2334.1.fMember, t2334.1.fIns, List.replicate ((5 : Int)).toNat (⟨0, (⟨[], 0, 0⟩ : Rule)⟩ : Out)⟩ : Tx), t2352.2)))) else some ((⟨t2334.1.fKind, t2334.1.fMember, t2334.1.fIns, t2334.1.fOuts⟩ : Tx), t2352.2))))))))))
theorem spec_l3Bent.calls {k : Nat} {x0 : l1Src} {b0 : Nat} {p0_0 : Value} {w wo : World} {X : List Nat} (hwo : Olds wo w X) (hX : Hold w [box b0 150 [p0_0, .int .i64 x0.fAt]] X) (hXn : X.Nodup) (hXl : ∀ b ∈ X, b < w.heap.size) (hp0_0 : RdS kU8 wo p0_0 x0.fCode) {r : Tx × Int} (H : spec_l3Bent.f k x0 = some r) :
    Calls Try.prog 51 ([.pointer (some ⟨b0, 0, none⟩)] : List Value).toArray w (fun e w_ => ∃ v, e = .returned v ∧ ∃ u0 : Value, ∃ u1 : Value, v = (.agg #[.int .i64 r.1.fKind, .int .i64 r.1.fMember, u0, u1]) ∧ Mem w X w_ [own kRef 36 u0 r.1.fIns, own kOut 69 u1 r.1.fOuts, box b0 150 [p0_0, .int .i64 r.2]]) := by
  have HM := Mem.startX hX hXn hXl
  refine calls_run (N := 59) Try.func51 rfl rfl rfl rfl ?_
  unfold spec_l3Bent.f at H
  refine run_seq ?_
  refine run_region rfl ?_
  refine od rfl rfl rfl rfl (does_alloc (cs := [.int .i64 0, .int .i64 0, .slice none 0 0, .slice none 0 0]) rfl tz28 rfl HM) ?_
  rintro _ w2333 ⟨b2330, rfl, HM⟩
  refine ops_nil (at_then (run_seq ?_))
  obtain ⟨t2334, h2335, H⟩ := bind_some H
  refine run_region rfl ?_
  refine ox rfl rfl rfl rfl (ex_move rfl rfl) ?_
  replace HM := HM.front 1 rfl rfl
  obtain ⟨F2340, hF2341, hFn2342, hFl2343, HMh2344, hcl2345⟩ := HM.hide (Ms := [box b0 150 [p0_0, .int .i64 x0.fAt]])
  refine od rfl rfl rfl rfl (does_callk rfl callok49 rfl (spec_l3Draw.calls (x0 := x0) (hide_olds _ _) hF2341 hFn2342 hFl2343 (HMh2344.rdo hwo hp0_0) h2335)) ?_
  rintro _ w2349 ⟨u2336, u2338, rfl, hn⟩
  replace HM : Mem w X w2349 [own kRef 36 u2336 t2334.1.fIns, own kOut 69 u2338 t2334.1.fOuts, box b0 150 [p0_0, .int .i64 t2334.2], box b2330 28 [.int .i64 0, .int .i64 0, .slice none 0 0, .slice none 0 0]] := hcl2345 _ _ hn
  refine od rfl rfl rfl rfl (does_alloc (cs := [.int .i64 0, .int .i64 0, .slice none 0 0, .slice none 0 0]) rfl tz28 rfl HM) ?_
  rintro _ w2350 ⟨b2346, rfl, HM⟩
  refine odS rfl rfl rfl (does_store (vs := [.int .i64 t2334.1.fKind, .int .i64 t2334.1.fMember, u2336, u2338]) (cs' := [.int .i64 t2334.1.fKind, .int .i64 t2334.1.fMember, u2336, u2338]) rfl rfl rfl rfl tsz28 (Ones.int (Ones.int (Ones.rd (HM.own_rd 1 rfl) (Ones.rd (HM.own_rd 2 rfl) Ones.nil)))) rfl rfl HM) ?_
  rintro w2351 HM
  refine ops_nil (at_then (run_seq ?_))
  refine run_seq ?_
  obtain ⟨t2352, h2353, H⟩ := bind_some H
  refine run_region rfl ?_
  refine ox rfl rfl rfl rfl (ex_move rfl rfl) ?_
  replace HM := HM.front 3 rfl rfl
  obtain ⟨F2354, hF2355, hFn2356, hFl2357, HMh2358, hcl2359⟩ := HM.hide (Ms := [box b0 150 [p0_0, .int .i64 t2334.2]])
  refine od rfl rfl rfl rfl (does_callk rfl callok52 rfl (spec_l1Next.calls (x0 := (⟨x0.fCode, t2334.2⟩ : l1Src)) (x1 := 14) (hide_olds _ _) hF2355 hFn2356 hFl2357 (HMh2358.rdo hwo hp0_0) h2353)) ?_
  rintro _ w2360 ⟨rfl, hn⟩
  replace HM : Mem w X w2360 [box b0 150 [p0_0, .int .i64 t2352.2], box b2346 28 [.int .i64 t2334.1.fKind, .int .i64 t2334.1.fMember, u2336, u2338], own kRef 36 u2336 t2334.1.fIns, own kOut 69 u2338 t2334.1.fOuts, box b2330 28 [.int .i64 0, .int .i64 0, .slice none 0 0, .slice none 0 0]] := hcl2359 _ _ hn
  refine ops_nil (at_then ?_)
  refine run_block ?_
  refine run_seq ?_
  refine run_region rfl ?_
  refine ox rfl rfl rfl rfl (ex_eql rfl rfl rfl) ?_
  refine ox rfl rfl rfl rfl (ex_assign rfl rfl) ?_
  refine ops_nil (at_then ?_)
  refine run_cond (b := (t2352.1 == 0)) rfl (fun hb2361 => ?_) (fun hb2361 => ?_)
  · replace H := cond_t hb2361 H
    obtain ⟨t2365, h2366, H⟩ := bind_some H
    refine run_region rfl ?_
    refine ox rfl rfl rfl rfl (ex_move rfl rfl) ?_
    refine od rfl rfl rfl rfl (does_lit (e := 2) (cs := [.int .i64 (-1), .int .i64 3, .int .i64 0, .int .i64 1]) (xs := ([(-1), 3, 0, 1] : List Int)) kInt rfl rfl (fun _ => by kernel_rfl) rfl rfl (fun _ _ h => by have h' : _ = [] := h; subst h'; exact (Elems.cons (d := kInt) (x := (-1)) (f := []) ⟨rfl, rfl⟩ (Elems.cons (d := kInt) (x := 3) (f := []) ⟨rfl, rfl⟩ (Elems.cons (d := kInt) (x := 0) (f := []) ⟨rfl, rfl⟩ (Elems.cons (d := kInt) (x := 1) (f := []) ⟨rfl, rfl⟩ .nil))))) HM.emp) ?_
    rintro v2362 w2373 HM
    replace HM := HM.front 1 rfl rfl
    obtain ⟨F2367, hF2368, hFn2369, hFl2370, HMh2371, hcl2372⟩ := HM.hide (Ms := [box b0 150 [p0_0, .int .i64 t2352.2]])
    refine od rfl rfl rfl rfl (does_callk rfl callok53 rfl (spec_l1Pick.calls (x0 := (⟨x0.fCode, t2352.2⟩ : l1Src)) (x1 := ([(-1), 3, 0, 1] : List Int)) (hide_olds _ _) hF2368 hFn2369 hFl2370 (HMh2371.rdo hwo hp0_0) (HMh2371.own_rd 0 rfl) h2366)) ?_
    rintro _ w2374 ⟨rfl, hn⟩
    replace HM : Mem w X w2374 [box b0 150 [p0_0, .int .i64 t2365.2], own kInt 2 v2362 ([(-1), 3, 0, 1] : List Int), box b2346 28 [.int .i64 t2334.1.fKind, .int .i64 t2334.1.fMember, u2336, u2338], own kRef 36 u2336 t2334.1.fIns, own kOut 69 u2338 t2334.1.fOuts, box b2330 28 [.int .i64 0, .int .i64 0, .slice none 0 0, .slice none 0 0]] := hcl2372 _ _ hn
    refine ox rfl rfl rfl rfl (ex_fieldAddr (off' := 0) rfl rfl Try.underlying28 rfl tsz2 rfl) ?_
    replace HM := HM.front 2 rfl rfl
    refine odS rfl rfl rfl (does_store (vs := [.int .i64 t2365.1]) (cs' := [.int .i64 t2365.1, .int .i64 t2334.1.fMember, u2336, u2338]) rfl rfl rfl rfl tsz2 (Ones.int Ones.nil) rfl rfl HM) ?_
    rintro w2375 HM
    refine ops_nil ?_
    refine at_block ?_
    refine at_then ?_
    refine run_seq ?_
    refine run_region rfl ?_
    refine ox rfl rfl rfl rfl (ex_loadN (cs := [(.int .i64 t2365.1), (.int .i64 t2334.1.fMember), u2336, u2338]) rfl rfl Try.underlying28 rfl tsz28 rfl ((HM.box_at 0 rfl).sub 0 4 rfl)) ?_
    replace HM := HM.front 5 rfl rfl
    refine odS rfl rfl rfl (does_store (vs := [.int .i64 t2365.1, .int .i64 t2334.1.fMember, u2336, u2338]) (cs' := [.int .i64 t2365.1, .int .i64 t2334.1.fMember, u2336, u2338]) rfl rfl rfl rfl tsz28 (Ones.int (Ones.int (Ones.rd (HM.own_rd 4 rfl) (Ones.rd (HM.own_rd 5 rfl) Ones.nil)))) rfl rfl HM) ?_
    rintro w2376 HM
    refine ops_nil (at_then ?_)
    refine run_ret ?_
    replace HM := (HM.front 1 rfl rfl).drop
    replace HM := (HM.front 2 rfl rfl).drop
    replace HM := HM.front 1 rfl rfl
    replace HM := HM.front 3 rfl rfl
    replace HM := HM.front 3 rfl rfl
    replace HM := HM.front 3 rfl rfl
    have hcb0 := HM.box_at 0 rfl
    replace HM := (HM.front 0 rfl rfl).drop
    have hR := Option.some.inj H
    subst hR
    exact at_retN rfl rfl Try.underlying28 rfl tsz28 rfl hcb0 ⟨_, rfl, _, _, rfl, HM⟩
  · replace H := cond_f hb2361 H
    refine run_seq ?_
    refine run_region rfl ?_
    refine ox rfl rfl rfl rfl (ex_eql rfl rfl rfl) ?_
    refine ox rfl rfl rfl rfl (ex_assign rfl rfl) ?_
    refine ops_nil (at_then ?_)
    refine run_cond (b := (t2352.1 == 1)) rfl (fun hb2377 => ?_) (fun hb2377 => ?_)
    · replace H := cond_t hb2377 H
      obtain ⟨t2381, h2382, H⟩ := bind_some H
      refine run_region rfl ?_
      refine ox rfl rfl rfl rfl (ex_move rfl rfl) ?_
      refine od rfl rfl rfl rfl (does_lit (e := 2) (cs := [.int .i64 0, .int .i64 1000, .int .i64 5]) (xs := ([0, 1000, 5] : List Int)) kInt rfl rfl (fun _ => by kernel_rfl) rfl rfl (fun _ _ h => by have h' : _ = [] := h; subst h'; exact (Elems.cons (d := kInt) (x := 0) (f := []) ⟨rfl, rfl⟩ (Elems.cons (d := kInt) (x := 1000) (f := []) ⟨rfl, rfl⟩ (Elems.cons (d := kInt) (x := 5) (f := []) ⟨rfl, rfl⟩ .nil)))) HM.emp) ?_
      rintro v2378 w2389 HM
      replace HM := HM.front 1 rfl rfl
      obtain ⟨F2383, hF2384, hFn2385, hFl2386, HMh2387, hcl2388⟩ := HM.hide (Ms := [box b0 150 [p0_0, .int .i64 t2352.2]])
      refine od rfl rfl rfl rfl (does_callk rfl callok53 rfl (spec_l1Pick.calls (x0 := (⟨x0.fCode, t2352.2⟩ : l1Src)) (x1 := ([0, 1000, 5] : List Int)) (hide_olds _ _) hF2384 hFn2385 hFl2386 (HMh2387.rdo hwo hp0_0) (HMh2387.own_rd 0 rfl) h2382)) ?_
      rintro _ w2390 ⟨rfl, hn⟩
      replace HM : Mem w X w2390 [box b0 150 [p0_0, .int .i64 t2381.2], own kInt 2 v2378 ([0, 1000, 5] : List Int), box b2346 28 [.int .i64 t2334.1.fKind, .int .i64 t2334.1.fMember, u2336, u2338], own kRef 36 u2336 t2334.1.fIns, own kOut 69 u2338 t2334.1.fOuts, box b2330 28 [.int .i64 0, .int .i64 0, .slice none 0 0, .slice none 0 0]] := hcl2388 _ _ hn
      refine ox rfl rfl rfl rfl (ex_fieldAddr (off' := 1) rfl rfl Try.underlying28 rfl tsz2 rfl) ?_
      replace HM := HM.front 2 rfl rfl
      refine odS rfl rfl rfl (does_store (vs := [.int .i64 t2381.1]) (cs' := [.int .i64 t2334.1.fKind, .int .i64 t2381.1, u2336, u2338]) rfl rfl rfl rfl tsz2 (Ones.int Ones.nil) rfl rfl HM) ?_
      rintro w2391 HM
      refine ops_nil ?_
      refine at_block ?_
      refine at_then ?_
      refine run_seq ?_
      refine run_region rfl ?_
      refine ox rfl rfl rfl rfl (ex_loadN (cs := [(.int .i64 t2334.1.fKind), (.int .i64 t2381.1), u2336, u2338]) rfl rfl Try.underlying28 rfl tsz28 rfl ((HM.box_at 0 rfl).sub 0 4 rfl)) ?_
      replace HM := HM.front 5 rfl rfl
      refine odS rfl rfl rfl (does_store (vs := [.int .i64 t2334.1.fKind, .int .i64 t2381.1, u2336, u2338]) (cs' := [.int .i64 t2334.1.fKind, .int .i64 t2381.1, u2336, u2338]) rfl rfl rfl rfl tsz28 (Ones.int (Ones.int (Ones.rd (HM.own_rd 4 rfl) (Ones.rd (HM.own_rd 5 rfl) Ones.nil)))) rfl rfl HM) ?_
      rintro w2392 HM
      refine ops_nil (at_then ?_)
      refine run_ret ?_
      replace HM := (HM.front 1 rfl rfl).drop
      replace HM := (HM.front 2 rfl rfl).drop
      replace HM := HM.front 1 rfl rfl
      replace HM := HM.front 3 rfl rfl
      replace HM := HM.front 3 rfl rfl
      replace HM := HM.front 3 rfl rfl
      have hcb0 := HM.box_at 0 rfl
      replace HM := (HM.front 0 rfl rfl).drop
      have hR := Option.some.inj H
      subst hR
      exact at_retN rfl rfl Try.underlying28 rfl tsz28 rfl hcb0 ⟨_, rfl, _, _, rfl, HM⟩
    · replace H := cond_f hb2377 H
      refine run_seq ?_
      refine run_region rfl ?_
      refine ox rfl rfl rfl rfl (ex_eql rfl rfl rfl) ?_
      refine ox rfl rfl rfl rfl (ex_assign rfl rfl) ?_
      refine ops_nil (at_then ?_)
      refine run_cond (b := (t2352.1 == 2)) rfl (fun hb2393 => ?_) (fun hb2393 => ?_)
      · replace H := cond_t hb2393 H
        obtain ⟨t2397, h2398, H⟩ := bind_some H
        obtain ⟨t2408, h2409, H⟩ := bind_some H
        obtain ⟨e2419, H⟩ := chk_some H
        refine run_meet (fun ρ_ w_ => ∃ v2420 : Value, ρ_ = [(2, .pointer (some ⟨b2330, 0, none⟩)), (3, .pointer (some ⟨b2346, 0, none⟩))] ∧ Mem w X w_ [box b0 150 [p0_0, .int .i64 t2408.2], box b2330 28 [.int .i64 0, .int .i64 0, .slice none 0 0, .slice none 0 0], box b2346 28 [.int .i64 t2334.1.fKind, .int .i64 t2334.1.fMember, v2420, u2338], own kRef 36 v2420 (t2334.1.fIns ++ ([(⟨t2397.1, t2408.1⟩ : Ref)] : List Ref)), own kOut 69 u2338 t2334.1.fOuts]) ?_ ?_
        · skip
          replace HM := HM.front 2 rfl rfl
          replace HM := HM.front 2 rfl rfl
          replace HM := HM.front 2 rfl rfl
          refine run_draw (fun w_ => Mem w X w_ [own kOut 69 u2338 t2334.1.fOuts, box b2330 28 [.int .i64 0, .int .i64 0, .slice none 0 0, .slice none 0 0]]) mixed rfl (l := #[false, false, false, false, false, false, false, false, false, false, false, false, false]) rfl ?_
          replace HM := HM.grow (fr_drew _)
          have hS := Mem.suf (M := [box b0 150 [p0_0, .int .i64 t2352.2], box b2346 28 [.int .i64 t2334.1.fKind, .int .i64 t2334.1.fMember, u2336, u2338], own kRef 36 u2336 t2334.1.fIns]) HM
          refine drw_cut3 (l' := (bs 13 1023)) (f' := 3) (fun (v2394 : Value) => fun (v2405 : Value) => fun (v2416 : Value) => [(2, .pointer (some ⟨b2330, 0, none⟩)), (3, .pointer (some ⟨b2346, 0, none⟩)), (23, u2336), (31, v2416)]) (fun (v2394 : Value) => fun (v2405 : Value) => fun (v2416 : Value) => fun w_ => Mem w X w_ [own kRef 36 v2416 ([(⟨t2397.1, t2408.1⟩ : Ref)] : List Ref), box b0 150 [p0_0, .int .i64 t2408.2], own kInt 2 v2405 ([0, 4] : List Int), own kInt 2 v2394 ([0, 61, 1] : List Int), box b2346 28 [.int .i64 t2334.1.fKind, .int .i64 t2334.1.fMember, u2336, u2338], own kRef 36 u2336 t2334.1.fIns, own kOut 69 u2338 t2334.1.fOuts, box b2330 28 [.int .i64 0, .int .i64 0, .slice none 0 0, .slice none 0 0]]) ?_ (fun K2442 => ?_)
          · rintro v2394 v2405 v2416 w2443 HM
            replace HM : Mem w X w2443 [own kRef 36 v2416 ([(⟨t2397.1, t2408.1⟩ : Ref)] : List Ref), box b0 150 [p0_0, .int .i64 t2408.2], own kInt 2 v2405 ([0, 4] : List Int), own kInt 2 v2394 ([0, 61, 1] : List Int), box b2346 28 [.int .i64 t2334.1.fKind, .int .i64 t2334.1.fMember, u2336, u2338], own kRef 36 u2336 t2334.1.fIns, own kOut 69 u2338 t2334.1.fOuts, box b2330 28 [.int .i64 0, .int .i64 0, .slice none 0 0, .slice none 0 0]] := HM
            have hS := Mem.suf (M := [own kRef 36 v2416 ([(⟨t2397.1, t2408.1⟩ : Ref)] : List Ref), box b0 150 [p0_0, .int .i64 t2408.2], own kInt 2 v2405 ([0, 4] : List Int), own kInt 2 v2394 ([0, 61, 1] : List Int), box b2346 28 [.int .i64 t2334.1.fKind, .int .i64 t2334.1.fMember, u2336, u2338], own kRef 36 u2336 t2334.1.fIns]) HM
            replace HM := HM.front 5 rfl rfl
            refine drw_any [10] (by kernel_rfl) rfl (.cons ?_ .nil)
            refine br_does (l' := (bs 13 2047)) rfl (guard_none rfl) rfl rfl (by kernel_rfl) (does_appendR kRef flat_plain rfl rfl rfl Try.underlying25 tsz36 rfl tby36 tz36 rfl rfl (leB_le e2419) (HM.own_rd 1 rfl) HM) ?_
            rintro v2420 w2444 HM
            have hS := Mem.suf (M := [own kRef 36 v2420 (t2334.1.fIns ++ ([(⟨t2397.1, t2408.1⟩ : Ref)] : List Ref)), own kRef 36 v2416 ([(⟨t2397.1, t2408.1⟩ : Ref)] : List Ref), box b0 150 [p0_0, .int .i64 t2408.2], own kInt 2 v2405 ([0, 4] : List Int), own kInt 2 v2394 ([0, 61, 1] : List Int), box b2346 28 [.int .i64 t2334.1.fKind, .int .i64 t2334.1.fMember, u2336, u2338]]) HM
            refine ⟨hS, ?_⟩
            refine dt 11 (bs 13 4095) rfl rfl rfl rfl (by kernel_rfl) (ex_fieldAddr (off' := 2) rfl rfl Try.underlying28 rfl tsz25 rfl) hS ?_
            replace HM := HM.front 5 rfl rfl
            refine drw_any [12] (by kernel_rfl) rfl (.cons ?_ .nil)
            refine br_doesS (l' := (bs 13 8191)) rfl (guard_none rfl) rfl (by kernel_rfl) (does_store (vs := [v2420]) (cs' := [.int .i64 t2334.1.fKind, .int .i64 t2334.1.fMember, v2420, u2338]) rfl rfl rfl (rd_cells (HM.own_rd 1 rfl)) tsz25 (Ones.rd (HM.own_rd 1 rfl) Ones.nil) rfl rfl HM) ?_
            rintro w2445 HM
            have hS := Mem.suf (M := [box b2346 28 [.int .i64 t2334.1.fKind, .int .i64 t2334.1.fMember, v2420, u2338], own kRef 36 v2420 (t2334.1.fIns ++ ([(⟨t2397.1, t2408.1⟩ : Ref)] : List Ref)), own kRef 36 v2416 ([(⟨t2397.1, t2408.1⟩ : Ref)] : List Ref), box b0 150 [p0_0, .int .i64 t2408.2], own kInt 2 v2405 ([0, 4] : List Int), own kInt 2 v2394 ([0, 61, 1] : List Int)]) HM
            refine ⟨hS, ?_⟩
            refine drw_done (by kernel_rfl) ?_
            replace HM := (HM.front 2 rfl rfl).drop
            replace HM := (HM.front 3 rfl rfl).drop
            replace HM := (HM.front 3 rfl rfl).drop
            replace HM := HM.front 3 rfl rfl
            replace HM := HM.front 2 rfl rfl
            replace HM := HM.front 2 rfl rfl
            replace HM := HM.front 4 rfl rfl
            replace HM := HM.front 4 rfl rfl
            exact at_meet [(2, .pointer (some ⟨b2330, 0, none⟩)), (3, .pointer (some ⟨b2346, 0, none⟩))] ⟨_, rfl, HM⟩ (Sub.cons rfl (Sub.cons rfl Sub.nil))
          refine drw_cut2 (l' := (bs 13 511)) (f' := 4) (fun (v2394 : Value) => fun (v2405 : Value) => [(2, .pointer (some ⟨b2330, 0, none⟩)), (3, .pointer (some ⟨b2346, 0, none⟩)), (23, u2336), (30, .agg #[(.int .i64 t2397.1), (.int .i64 t2408.1)])]) (fun (v2394 : Value) => fun (v2405 : Value) => fun w_ => Mem w X w_ [box b0 150 [p0_0, .int .i64 t2408.2], own kInt 2 v2405 ([0, 4] : List Int), own kInt 2 v2394 ([0, 61, 1] : List Int), box b2346 28 [.int .i64 t2334.1.fKind, .int .i64 t2334.1.fMember, u2336, u2338], own kRef 36 u2336 t2334.1.fIns, own kOut 69 u2338 t2334.1.fOuts, box b2330 28 [.int .i64 0, .int .i64 0, .slice none 0 0, .slice none 0 0]]) ?_ (fun K2446 => ?_)
          · rintro v2394 v2405 w2447 HM
            replace HM : Mem w X w2447 [box b0 150 [p0_0, .int .i64 t2408.2], own kInt 2 v2405 ([0, 4] : List Int), own kInt 2 v2394 ([0, 61, 1] : List Int), box b2346 28 [.int .i64 t2334.1.fKind, .int .i64 t2334.1.fMember, u2336, u2338], own kRef 36 u2336 t2334.1.fIns, own kOut 69 u2338 t2334.1.fOuts, box b2330 28 [.int .i64 0, .int .i64 0, .slice none 0 0, .slice none 0 0]] := HM
            have hS := Mem.suf (M := [box b0 150 [p0_0, .int .i64 t2408.2], own kInt 2 v2405 ([0, 4] : List Int), own kInt 2 v2394 ([0, 61, 1] : List Int), box b2346 28 [.int .i64 t2334.1.fKind, .int .i64 t2334.1.fMember, u2336, u2338], own kRef 36 u2336 t2334.1.fIns]) HM
            refine drw_any [9] (by kernel_rfl) rfl (.cons ?_ .nil)
            refine br_does (l' := (bs 13 1023)) rfl (guard_none rfl) rfl rfl (by kernel_rfl) (does_lit (e := 36) (cs := [.int .i64 t2397.1, .int .i64 t2408.1]) (xs := ([(⟨t2397.1, t2408.1⟩ : Ref)] : List Ref)) kRef rfl rfl (fun _ => by kernel_rfl) rfl rfl (fun _ _ h => by have h' : _ = [] := h; subst h'; exact (Elems.cons (d := kRef) (x := (⟨t2397.1, t2408.1⟩ : Ref)) (f := []) ⟨rfl, rfl⟩ .nil)) HM.emp) ?_
            rintro v2416 w2448 HM
            have hS := Mem.suf (M := [own kRef 36 v2416 ([(⟨t2397.1, t2408.1⟩ : Ref)] : List Ref), box b0 150 [p0_0, .int .i64 t2408.2], own kInt 2 v2405 ([0, 4] : List Int), own kInt 2 v2394 ([0, 61, 1] : List Int), box b2346 28 [.int .i64 t2334.1.fKind, .int .i64 t2334.1.fMember, u2336, u2338], own kRef 36 u2336 t2334.1.fIns]) HM
            refine ⟨hS, ?_⟩
            exact drw_sub (K2442 v2394 v2405 v2416 _ HM) (Sub.cons rfl (Sub.cons rfl (Sub.cons rfl (Sub.cons rfl Sub.nil))))
          refine drw_cut2 (l' := (bs 13 127)) (f' := 6) (fun (v2394 : Value) => fun (v2405 : Value) => [(2, .pointer (some ⟨b2330, 0, none⟩)), (3, .pointer (some ⟨b2346, 0, none⟩)), (27, .pointer (some ⟨b0, 0, none⟩)), (23, u2336), (26, .int .i64 t2397.1), (28, v2405)]) (fun (v2394 : Value) => fun (v2405 : Value) => fun w_ => Mem w X w_ [own kInt 2 v2405 ([0, 4] : List Int), box b0 150 [p0_0, .int .i64 t2397.2], own kInt 2 v2394 ([0, 61, 1] : List Int), box b2346 28 [.int .i64 t2334.1.fKind, .int .i64 t2334.1.fMember, u2336, u2338], own kRef 36 u2336 t2334.1.fIns, own kOut 69 u2338 t2334.1.fOuts, box b2330 28 [.int .i64 0, .int .i64 0, .slice none 0 0, .slice none 0 0]]) ?_ (fun K2449 => ?_)
          · rintro v2394 v2405 w2450 HM
            replace HM : Mem w X w2450 [own kInt 2 v2405 ([0, 4] : List Int), box b0 150 [p0_0, .int .i64 t2397.2], own kInt 2 v2394 ([0, 61, 1] : List Int), box b2346 28 [.int .i64 t2334.1.fKind, .int .i64 t2334.1.fMember, u2336, u2338], own kRef 36 u2336 t2334.1.fIns, own kOut 69 u2338 t2334.1.fOuts, box b2330 28 [.int .i64 0, .int .i64 0, .slice none 0 0, .slice none 0 0]] := HM
            have hS := Mem.suf (M := [own kInt 2 v2405 ([0, 4] : List Int), box b0 150 [p0_0, .int .i64 t2397.2], own kInt 2 v2394 ([0, 61, 1] : List Int), box b2346 28 [.int .i64 t2334.1.fKind, .int .i64 t2334.1.fMember, u2336, u2338], own kRef 36 u2336 t2334.1.fIns]) HM
            replace HM := HM.front 1 rfl rfl
            obtain ⟨F2410, hF2411, hFn2412, hFl2413, HMh2414, hcl2415⟩ := HM.hide (Ms := [box b0 150 [p0_0, .int .i64 t2397.2]])
            refine drw_any [7] (by kernel_rfl) rfl (.cons ?_ .nil)
            refine br_does (l' := (bs 13 255)) rfl (guard_none rfl) rfl rfl (by kernel_rfl) (does_callk rfl callok53 rfl (spec_l1Pick.calls (x0 := (⟨x0.fCode, t2397.2⟩ : l1Src)) (x1 := ([0, 4] : List Int)) (hide_olds _ _) hF2411 hFn2412 hFl2413 (HMh2414.rdo hwo hp0_0) (HMh2414.own_rd 0 rfl) h2409)) ?_
            rintro _ w2451 ⟨rfl, hn⟩
            replace HM : Mem w X w2451 [box b0 150 [p0_0, .int .i64 t2408.2], own kInt 2 v2405 ([0, 4] : List Int), own kInt 2 v2394 ([0, 61, 1] : List Int), box b2346 28 [.int .i64 t2334.1.fKind, .int .i64 t2334.1.fMember, u2336, u2338], own kRef 36 u2336 t2334.1.fIns, own kOut 69 u2338 t2334.1.fOuts, box b2330 28 [.int .i64 0, .int .i64 0, .slice none 0 0, .slice none 0 0]] := hcl2415 _ _ hn
            have hS := Mem.suf (M := [box b0 150 [p0_0, .int .i64 t2408.2], own kInt 2 v2405 ([0, 4] : List Int), own kInt 2 v2394 ([0, 61, 1] : List Int), box b2346 28 [.int .i64 t2334.1.fKind, .int .i64 t2334.1.fMember, u2336, u2338], own kRef 36 u2336 t2334.1.fIns]) HM
            refine ⟨hS, ?_⟩
            refine dt 8 (bs 13 511) rfl rfl rfl rfl (by kernel_rfl) (ex_build (cells := #[(.int .i64 t2397.1), (.int .i64 t2408.1)]) rfl rfl (by kernel_rfl)) hS ?_
            exact drw_sub (K2446 v2394 v2405 _ HM) (Sub.cons rfl (Sub.cons rfl (Sub.cons rfl (Sub.cons rfl Sub.nil))))
          refine drw_cut1 (l' := (bs 13 63)) (f' := 7) (fun (v2394 : Value) => [(2, .pointer (some ⟨b2330, 0, none⟩)), (3, .pointer (some ⟨b2346, 0, none⟩)), (27, .pointer (some ⟨b0, 0, none⟩)), (23, u2336), (26, .int .i64 t2397.1)]) (fun (v2394 : Value) => fun w_ => Mem w X w_ [box b0 150 [p0_0, .int .i64 t2397.2], own kInt 2 v2394 ([0, 61, 1] : List Int), box b2346 28 [.int .i64 t2334.1.fKind, .int .i64 t2334.1.fMember, u2336, u2338], own kRef 36 u2336 t2334.1.fIns, own kOut 69 u2338 t2334.1.fOuts, box b2330 28 [.int .i64 0, .int .i64 0, .slice none 0 0, .slice none 0 0]]) ?_ (fun K2452 => ?_)
          · rintro v2394 w2453 HM
            replace HM : Mem w X w2453 [box b0 150 [p0_0, .int .i64 t2397.2], own kInt 2 v2394 ([0, 61, 1] : List Int), box b2346 28 [.int .i64 t2334.1.fKind, .int .i64 t2334.1.fMember, u2336, u2338], own kRef 36 u2336 t2334.1.fIns, own kOut 69 u2338 t2334.1.fOuts, box b2330 28 [.int .i64 0, .int .i64 0, .slice none 0 0, .slice none 0 0]] := HM
            have hS := Mem.suf (M := [box b0 150 [p0_0, .int .i64 t2397.2], own kInt 2 v2394 ([0, 61, 1] : List Int), box b2346 28 [.int .i64 t2334.1.fKind, .int .i64 t2334.1.fMember, u2336, u2338], own kRef 36 u2336 t2334.1.fIns]) HM
            refine drw_any [6] (by kernel_rfl) rfl (.cons ?_ .nil)
            refine br_does (l' := (bs 13 127)) rfl (guard_none rfl) rfl rfl (by kernel_rfl) (does_lit (e := 2) (cs := [.int .i64 0, .int .i64 4]) (xs := ([0, 4] : List Int)) kInt rfl rfl (fun _ => by kernel_rfl) rfl rfl (fun _ _ h => by have h' : _ = [] := h; subst h'; exact (Elems.cons (d := kInt) (x := 0) (f := []) ⟨rfl, rfl⟩ (Elems.cons (d := kInt) (x := 4) (f := []) ⟨rfl, rfl⟩ .nil))) HM.emp) ?_
            rintro v2405 w2454 HM
            have hS := Mem.suf (M := [own kInt 2 v2405 ([0, 4] : List Int), box b0 150 [p0_0, .int .i64 t2397.2], own kInt 2 v2394 ([0, 61, 1] : List Int), box b2346 28 [.int .i64 t2334.1.fKind, .int .i64 t2334.1.fMember, u2336, u2338], own kRef 36 u2336 t2334.1.fIns]) HM
            refine ⟨hS, ?_⟩
            exact drw_sub (K2449 v2394 v2405 _ HM) (Sub.cons rfl (Sub.cons rfl (Sub.cons rfl (Sub.cons rfl (Sub.cons rfl (Sub.cons rfl Sub.nil))))))
          refine drw_cut2 (l' := (bs 13 111)) (f' := 7) (fun (v2394 : Value) => fun (v2405 : Value) => [(2, .pointer (some ⟨b2330, 0, none⟩)), (3, .pointer (some ⟨b2346, 0, none⟩)), (24, .pointer (some ⟨b0, 0, none⟩)), (27, .pointer (some ⟨b0, 0, none⟩)), (23, u2336), (25, v2394), (28, v2405)]) (fun (v2394 : Value) => fun (v2405 : Value) => fun w_ => Mem w X w_ [own kInt 2 v2405 ([0, 4] : List Int), own kInt 2 v2394 ([0, 61, 1] : List Int), box b0 150 [p0_0, .int .i64 t2352.2], box b2346 28 [.int .i64 t2334.1.fKind, .int .i64 t2334.1.fMember, u2336, u2338], own kRef 36 u2336 t2334.1.fIns, own kOut 69 u2338 t2334.1.fOuts, box b2330 28 [.int .i64 0, .int .i64 0, .slice none 0 0, .slice none 0 0]]) ?_ (fun K2455 => ?_)
          · rintro v2394 v2405 w2456 HM
            replace HM : Mem w X w2456 [own kInt 2 v2405 ([0, 4] : List Int), own kInt 2 v2394 ([0, 61, 1] : List Int), box b0 150 [p0_0, .int .i64 t2352.2], box b2346 28 [.int .i64 t2334.1.fKind, .int .i64 t2334.1.fMember, u2336, u2338], own kRef 36 u2336 t2334.1.fIns, own kOut 69 u2338 t2334.1.fOuts, box b2330 28 [.int .i64 0, .int .i64 0, .slice none 0 0, .slice none 0 0]] := HM
            have hS := Mem.suf (M := [own kInt 2 v2405 ([0, 4] : List Int), own kInt 2 v2394 ([0, 61, 1] : List Int), box b0 150 [p0_0, .int .i64 t2352.2], box b2346 28 [.int .i64 t2334.1.fKind, .int .i64 t2334.1.fMember, u2336, u2338], own kRef 36 u2336 t2334.1.fIns]) HM
            replace HM := HM.front 2 rfl rfl
            obtain ⟨F2399, hF2400, hFn2401, hFl2402, HMh2403, hcl2404⟩ := HM.hide (Ms := [box b0 150 [p0_0, .int .i64 t2352.2]])
            refine drw_any [4] (by kernel_rfl) rfl (.cons ?_ .nil)
            refine br_does (l' := (bs 13 127)) rfl (guard_none rfl) rfl rfl (by kernel_rfl) (does_callk rfl callok53 rfl (spec_l1Pick.calls (x0 := (⟨x0.fCode, t2352.2⟩ : l1Src)) (x1 := ([0, 61, 1] : List Int)) (hide_olds _ _) hF2400 hFn2401 hFl2402 (HMh2403.rdo hwo hp0_0) (HMh2403.own_rd 1 rfl) h2398)) ?_
            rintro _ w2457 ⟨rfl, hn⟩
            replace HM : Mem w X w2457 [box b0 150 [p0_0, .int .i64 t2397.2], own kInt 2 v2405 ([0, 4] : List Int), own kInt 2 v2394 ([0, 61, 1] : List Int), box b2346 28 [.int .i64 t2334.1.fKind, .int .i64 t2334.1.fMember, u2336, u2338], own kRef 36 u2336 t2334.1.fIns, own kOut 69 u2338 t2334.1.fOuts, box b2330 28 [.int .i64 0, .int .i64 0, .slice none 0 0, .slice none 0 0]] := hcl2404 _ _ hn
            have hS := Mem.suf (M := [box b0 150 [p0_0, .int .i64 t2397.2], own kInt 2 v2405 ([0, 4] : List Int), own kInt 2 v2394 ([0, 61, 1] : List Int), box b2346 28 [.int .i64 t2334.1.fKind, .int .i64 t2334.1.fMember, u2336, u2338], own kRef 36 u2336 t2334.1.fIns]) HM
            refine ⟨hS, ?_⟩
            replace HM := HM.front 6 rfl rfl
            replace HM := HM.front 6 rfl rfl
            replace HM := HM.front 6 rfl rfl
            replace HM := HM.front 6 rfl rfl
            replace HM := HM.front 6 rfl rfl
            replace HM := HM.front 5 rfl rfl
            replace HM := HM.front 6 rfl rfl
            exact drw_sub (K2449 v2394 v2405 _ HM) (Sub.cons rfl (Sub.cons rfl (Sub.cons rfl (Sub.cons rfl (Sub.cons rfl (Sub.cons rfl Sub.nil))))))
          refine drw_cut2 (l' := (bs 13 125)) (f' := 7) (fun (v2394 : Value) => fun (v2405 : Value) => [(2, .pointer (some ⟨b2330, 0, none⟩)), (3, .pointer (some ⟨b2346, 0, none⟩)), (22, .pointer (some ⟨b2346, 2, none⟩)), (27, .pointer (some ⟨b0, 0, none⟩)), (26, .int .i64 t2397.1), (28, v2405)]) (fun (v2394 : Value) => fun (v2405 : Value) => fun w_ => Mem w X w_ [own kInt 2 v2405 ([0, 4] : List Int), box b0 150 [p0_0, .int .i64 t2397.2], own kInt 2 v2394 ([0, 61, 1] : List Int), box b2346 28 [.int .i64 t2334.1.fKind, .int .i64 t2334.1.fMember, u2336, u2338], own kRef 36 u2336 t2334.1.fIns, own kOut 69 u2338 t2334.1.fOuts, box b2330 28 [.int .i64 0, .int .i64 0, .slice none 0 0, .slice none 0 0]]) ?_ (fun K2458 => ?_)
          · rintro v2394 v2405 w2459 HM
            replace HM : Mem w X w2459 [own kInt 2 v2405 ([0, 4] : List Int), box b0 150 [p0_0, .int .i64 t2397.2], own kInt 2 v2394 ([0, 61, 1] : List Int), box b2346 28 [.int .i64 t2334.1.fKind, .int .i64 t2334.1.fMember, u2336, u2338], own kRef 36 u2336 t2334.1.fIns, own kOut 69 u2338 t2334.1.fOuts, box b2330 28 [.int .i64 0, .int .i64 0, .slice none 0 0, .slice none 0 0]] := HM
            have hS := Mem.suf (M := [own kInt 2 v2405 ([0, 4] : List Int), box b0 150 [p0_0, .int .i64 t2397.2], own kInt 2 v2394 ([0, 61, 1] : List Int), box b2346 28 [.int .i64 t2334.1.fKind, .int .i64 t2334.1.fMember, u2336, u2338], own kRef 36 u2336 t2334.1.fIns]) HM
            refine drw_any [1, 7] (by kernel_rfl) rfl (.cons ?_ (.cons ?_ .nil))
            · skip
              refine br_does (l' := (bs 13 127)) rfl (guard_none rfl) rfl rfl (by kernel_rfl) (does_ex' (ex_load1 rfl rfl Try.underlying25 rfl ((HM.box_at 3 rfl) 2 _ rfl))) ?_
              rintro _ _ ⟨rfl, rfl⟩
              refine ⟨hS, ?_⟩
              exact drw_sub (K2449 v2394 v2405 _ HM) (Sub.cons rfl (Sub.cons rfl (Sub.cons rfl (Sub.cons rfl (Sub.cons rfl (Sub.cons rfl Sub.nil))))))
            · skip
              replace HM := HM.front 1 rfl rfl
              obtain ⟨F2410, hF2411, hFn2412, hFl2413, HMh2414, hcl2415⟩ := HM.hide (Ms := [box b0 150 [p0_0, .int .i64 t2397.2]])
              refine br_does (l' := (bs 13 253)) rfl (guard_none rfl) rfl rfl (by kernel_rfl) (does_callk rfl callok53 rfl (spec_l1Pick.calls (x0 := (⟨x0.fCode, t2397.2⟩ : l1Src)) (x1 := ([0, 4] : List Int)) (hide_olds _ _) hF2411 hFn2412 hFl2413 (HMh2414.rdo hwo hp0_0) (HMh2414.own_rd 0 rfl) h2409)) ?_
              rintro _ w2460 ⟨rfl, hn⟩
              replace HM : Mem w X w2460 [box b0 150 [p0_0, .int .i64 t2408.2], own kInt 2 v2405 ([0, 4] : List Int), own kInt 2 v2394 ([0, 61, 1] : List Int), box b2346 28 [.int .i64 t2334.1.fKind, .int .i64 t2334.1.fMember, u2336, u2338], own kRef 36 u2336 t2334.1.fIns, own kOut 69 u2338 t2334.1.fOuts, box b2330 28 [.int .i64 0, .int .i64 0, .slice none 0 0, .slice none 0 0]] := hcl2415 _ _ hn
              have hS := Mem.suf (M := [box b0 150 [p0_0, .int .i64 t2408.2], own kInt 2 v2405 ([0, 4] : List Int), own kInt 2 v2394 ([0, 61, 1] : List Int), box b2346 28 [.int .i64 t2334.1.fKind, .int .i64 t2334.1.fMember, u2336, u2338], own kRef 36 u2336 t2334.1.fIns]) HM
              refine ⟨hS, ?_⟩
              refine dt 8 (bs 13 509) rfl rfl rfl rfl (by kernel_rfl) (ex_build (cells := #[(.int .i64 t2397.1), (.int .i64 t2408.1)]) rfl rfl (by kernel_rfl)) hS ?_
              refine drw_any [1, 9] (by kernel_rfl) rfl (.cons ?_ (.cons ?_ .nil))
              · skip
                refine br_does (l' := (bs 13 511)) rfl (guard_none rfl) rfl rfl (by kernel_rfl) (does_ex' (ex_load1 rfl rfl Try.underlying25 rfl ((HM.box_at 3 rfl) 2 _ rfl))) ?_
                rintro _ _ ⟨rfl, rfl⟩
                refine ⟨hS, ?_⟩
                exact drw_sub (K2446 v2394 v2405 _ HM) (Sub.cons rfl (Sub.cons rfl (Sub.cons rfl (Sub.cons rfl Sub.nil))))
              · skip
                refine br_does (l' := (bs 13 1021)) rfl (guard_none rfl) rfl rfl (by kernel_rfl) (does_lit (e := 36) (cs := [.int .i64 t2397.1, .int .i64 t2408.1]) (xs := ([(⟨t2397.1, t2408.1⟩ : Ref)] : List Ref)) kRef rfl rfl (fun _ => by kernel_rfl) rfl rfl (fun _ _ h => by have h' : _ = [] := h; subst h'; exact (Elems.cons (d := kRef) (x := (⟨t2397.1, t2408.1⟩ : Ref)) (f := []) ⟨rfl, rfl⟩ .nil)) HM.emp) ?_
                rintro v2416 w2461 HM
                have hS := Mem.suf (M := [own kRef 36 v2416 ([(⟨t2397.1, t2408.1⟩ : Ref)] : List Ref), box b0 150 [p0_0, .int .i64 t2408.2], own kInt 2 v2405 ([0, 4] : List Int), own kInt 2 v2394 ([0, 61, 1] : List Int), box b2346 28 [.int .i64 t2334.1.fKind, .int .i64 t2334.1.fMember, u2336, u2338], own kRef 36 u2336 t2334.1.fIns]) HM
                refine ⟨hS, ?_⟩
                refine drw_any [1] (by kernel_rfl) rfl (.cons ?_ .nil)
                refine br_does (l' := (bs 13 1023)) rfl (guard_none rfl) rfl rfl (by kernel_rfl) (does_ex' (ex_load1 rfl rfl Try.underlying25 rfl ((HM.box_at 4 rfl) 2 _ rfl))) ?_
                rintro _ _ ⟨rfl, rfl⟩
                refine ⟨hS, ?_⟩
                exact drw_sub (K2442 v2394 v2405 v2416 _ HM) (Sub.cons rfl (Sub.cons rfl (Sub.cons rfl (Sub.cons rfl Sub.nil))))
          refine drw_cut1 (l' := (bs 13 47)) (f' := 8) (fun (v2394 : Value) => [(2, .pointer (some ⟨b2330, 0, none⟩)), (3, .pointer (some ⟨b2346, 0, none⟩)), (24, .pointer (some ⟨b0, 0, none⟩)), (27, .pointer (some ⟨b0, 0, none⟩)), (23, u2336), (25, v2394)]) (fun (v2394 : Value) => fun w_ => Mem w X w_ [own kInt 2 v2394 ([0, 61, 1] : List Int), box b0 150 [p0_0, .int .i64 t2352.2], box b2346 28 [.int .i64 t2334.1.fKind, .int .i64 t2334.1.fMember, u2336, u2338], own kRef 36 u2336 t2334.1.fIns, own kOut 69 u2338 t2334.1.fOuts, box b2330 28 [.int .i64 0, .int .i64 0, .slice none 0 0, .slice none 0 0]]) ?_ (fun K2462 => ?_)
          · rintro v2394 w2463 HM
            replace HM : Mem w X w2463 [own kInt 2 v2394 ([0, 61, 1] : List Int), box b0 150 [p0_0, .int .i64 t2352.2], box b2346 28 [.int .i64 t2334.1.fKind, .int .i64 t2334.1.fMember, u2336, u2338], own kRef 36 u2336 t2334.1.fIns, own kOut 69 u2338 t2334.1.fOuts, box b2330 28 [.int .i64 0, .int .i64 0, .slice none 0 0, .slice none 0 0]] := HM
            have hS := Mem.suf (M := [own kInt 2 v2394 ([0, 61, 1] : List Int), box b0 150 [p0_0, .int .i64 t2352.2], box b2346 28 [.int .i64 t2334.1.fKind, .int .i64 t2334.1.fMember, u2336, u2338], own kRef 36 u2336 t2334.1.fIns]) HM
            refine drw_any [4, 6] (by kernel_rfl) rfl (.cons ?_ (.cons ?_ .nil))
            · skip
              replace HM := HM.front 1 rfl rfl
              obtain ⟨F2399, hF2400, hFn2401, hFl2402, HMh2403, hcl2404⟩ := HM.hide (Ms := [box b0 150 [p0_0, .int .i64 t2352.2]])
              refine br_does (l' := (bs 13 63)) rfl (guard_none rfl) rfl rfl (by kernel_rfl) (does_callk rfl callok53 rfl (spec_l1Pick.calls (x0 := (⟨x0.fCode, t2352.2⟩ : l1Src)) (x1 := ([0, 61, 1] : List Int)) (hide_olds _ _) hF2400 hFn2401 hFl2402 (HMh2403.rdo hwo hp0_0) (HMh2403.own_rd 0 rfl) h2398)) ?_
              rintro _ w2464 ⟨rfl, hn⟩
              replace HM : Mem w X w2464 [box b0 150 [p0_0, .int .i64 t2397.2], own kInt 2 v2394 ([0, 61, 1] : List Int), box b2346 28 [.int .i64 t2334.1.fKind, .int .i64 t2334.1.fMember, u2336, u2338], own kRef 36 u2336 t2334.1.fIns, own kOut 69 u2338 t2334.1.fOuts, box b2330 28 [.int .i64 0, .int .i64 0, .slice none 0 0, .slice none 0 0]] := hcl2404 _ _ hn
              have hS := Mem.suf (M := [box b0 150 [p0_0, .int .i64 t2397.2], own kInt 2 v2394 ([0, 61, 1] : List Int), box b2346 28 [.int .i64 t2334.1.fKind, .int .i64 t2334.1.fMember, u2336, u2338], own kRef 36 u2336 t2334.1.fIns]) HM
              refine ⟨hS, ?_⟩
              exact drw_sub (K2452 v2394 _ HM) (Sub.cons rfl (Sub.cons rfl (Sub.cons rfl (Sub.cons rfl (Sub.cons rfl Sub.nil)))))
            · skip
              refine br_does (l' := (bs 13 111)) rfl (guard_none rfl) rfl rfl (by kernel_rfl) (does_lit (e := 2) (cs := [.int .i64 0, .int .i64 4]) (xs := ([0, 4] : List Int)) kInt rfl rfl (fun _ => by kernel_rfl) rfl rfl (fun _ _ h => by have h' : _ = [] := h; subst h'; exact (Elems.cons (d := kInt) (x := 0) (f := []) ⟨rfl, rfl⟩ (Elems.cons (d := kInt) (x := 4) (f := []) ⟨rfl, rfl⟩ .nil))) HM.emp) ?_
              rintro v2405 w2465 HM
              have hS := Mem.suf (M := [own kInt 2 v2405 ([0, 4] : List Int), own kInt 2 v2394 ([0, 61, 1] : List Int), box b0 150 [p0_0, .int .i64 t2352.2], box b2346 28 [.int .i64 t2334.1.fKind, .int .i64 t2334.1.fMember, u2336, u2338], own kRef 36 u2336 t2334.1.fIns]) HM
              refine ⟨hS, ?_⟩
              exact drw_sub (K2455 v2394 v2405 _ HM) (Sub.cons rfl (Sub.cons rfl (Sub.cons rfl (Sub.cons rfl (Sub.cons rfl (Sub.cons rfl (Sub.cons rfl Sub.nil)))))))
          refine drw_cut1 (l' := (bs 13 103)) (f' := 8) (fun (v2405 : Value) => [(2, .pointer (some ⟨b2330, 0, none⟩)), (3, .pointer (some ⟨b2346, 0, none⟩)), (24, .pointer (some ⟨b0, 0, none⟩)), (27, .pointer (some ⟨b0, 0, none⟩)), (23, u2336), (28, v2405)]) (fun (v2405 : Value) => fun w_ => Mem w X w_ [own kInt 2 v2405 ([0, 4] : List Int), box b0 150 [p0_0, .int .i64 t2352.2], box b2346 28 [.int .i64 t2334.1.fKind, .int .i64 t2334.1.fMember, u2336, u2338], own kRef 36 u2336 t2334.1.fIns, own kOut 69 u2338 t2334.1.fOuts, box b2330 28 [.int .i64 0, .int .i64 0, .slice none 0 0, .slice none 0 0]]) ?_ (fun K2466 => ?_)
          · rintro v2405 w2467 HM
            replace HM : Mem w X w2467 [own kInt 2 v2405 ([0, 4] : List Int), box b0 150 [p0_0, .int .i64 t2352.2], box b2346 28 [.int .i64 t2334.1.fKind, .int .i64 t2334.1.fMember, u2336, u2338], own kRef 36 u2336 t2334.1.fIns, own kOut 69 u2338 t2334.1.fOuts, box b2330 28 [.int .i64 0, .int .i64 0, .slice none 0 0, .slice none 0 0]] := HM
            have hS := Mem.suf (M := [own kInt 2 v2405 ([0, 4] : List Int), box b0 150 [p0_0, .int .i64 t2352.2], box b2346 28 [.int .i64 t2334.1.fKind, .int .i64 t2334.1.fMember, u2336, u2338], own kRef 36 u2336 t2334.1.fIns]) HM
            refine drw_any [3] (by kernel_rfl) rfl (.cons ?_ .nil)
            refine br_does (l' := (bs 13 111)) rfl (guard_none rfl) rfl rfl (by kernel_rfl) (does_lit (e := 2) (cs := [.int .i64 0, .int .i64 61, .int .i64 1]) (xs := ([0, 61, 1] : List Int)) kInt rfl rfl (fun _ => by kernel_rfl) rfl rfl (fun _ _ h => by have h' : _ = [] := h; subst h'; exact (Elems.cons (d := kInt) (x := 0) (f := []) ⟨rfl, rfl⟩ (Elems.cons (d := kInt) (x := 61) (f := []) ⟨rfl, rfl⟩ (Elems.cons (d := kInt) (x := 1) (f := []) ⟨rfl, rfl⟩ .nil)))) HM.emp) ?_
            rintro v2394 w2468 HM
            have hS := Mem.suf (M := [own kInt 2 v2394 ([0, 61, 1] : List Int), own kInt 2 v2405 ([0, 4] : List Int), box b0 150 [p0_0, .int .i64 t2352.2], box b2346 28 [.int .i64 t2334.1.fKind, .int .i64 t2334.1.fMember, u2336, u2338], own kRef 36 u2336 t2334.1.fIns]) HM
            refine ⟨hS, ?_⟩
            replace HM := HM.front 6 rfl rfl
            replace HM := HM.front 6 rfl rfl
            replace HM := HM.front 6 rfl rfl
            replace HM := HM.front 6 rfl rfl
            replace HM := HM.front 6 rfl rfl
            replace HM := HM.front 5 rfl rfl
            replace HM := HM.front 6 rfl rfl
            exact drw_sub (K2455 v2394 v2405 _ HM) (Sub.cons rfl (Sub.cons rfl (Sub.cons rfl (Sub.cons rfl (Sub.cons rfl (Sub.cons rfl (Sub.cons rfl Sub.nil)))))))
          refine drw_cut2 (l' := (bs 13 109)) (f' := 8) (fun (v2394 : Value) => fun (v2405 : Value) => [(2, .pointer (some ⟨b2330, 0, none⟩)), (3, .pointer (some ⟨b2346, 0, none⟩)), (22, .pointer (some ⟨b2346, 2, none⟩)), (24, .pointer (some ⟨b0, 0, none⟩)), (27, .pointer (some ⟨b0, 0, none⟩)), (25, v2394), (28, v2405)]) (fun (v2394 : Value) => fun (v2405 : Value) => fun w_ => Mem w X w_ [own kInt 2 v2405 ([0, 4] : List Int), own kInt 2 v2394 ([0, 61, 1] : List Int), box b0 150 [p0_0, .int .i64 t2352.2], box b2346 28 [.int .i64 t2334.1.fKind, .int .i64 t2334.1.fMember, u2336, u2338], own kRef 36 u2336 t2334.1.fIns, own kOut 69 u2338 t2334.1.fOuts, box b2330 28 [.int .i64 0, .int .i64 0, .slice none 0 0, .slice none 0 0]]) ?_ (fun K2469 => ?_)
          · rintro v2394 v2405 w2470 HM
            replace HM : Mem w X w2470 [own kInt 2 v2405 ([0, 4] : List Int), own kInt 2 v2394 ([0, 61, 1] : List Int), box b0 150 [p0_0, .int .i64 t2352.2], box b2346 28 [.int .i64 t2334.1.fKind, .int .i64 t2334.1.fMember, u2336, u2338], own kRef 36 u2336 t2334.1.fIns, own kOut 69 u2338 t2334.1.fOuts, box b2330 28 [.int .i64 0, .int .i64 0, .slice none 0 0, .slice none 0 0]] := HM
            have hS := Mem.suf (M := [own kInt 2 v2405 ([0, 4] : List Int), own kInt 2 v2394 ([0, 61, 1] : List Int), box b0 150 [p0_0, .int .i64 t2352.2], box b2346 28 [.int .i64 t2334.1.fKind, .int .i64 t2334.1.fMember, u2336, u2338], own kRef 36 u2336 t2334.1.fIns]) HM
            refine drw_any [1, 4] (by kernel_rfl) rfl (.cons ?_ (.cons ?_ .nil))
            · skip
              refine br_does (l' := (bs 13 111)) rfl (guard_none rfl) rfl rfl (by kernel_rfl) (does_ex' (ex_load1 rfl rfl Try.underlying25 rfl ((HM.box_at 3 rfl) 2 _ rfl))) ?_
              rintro _ _ ⟨rfl, rfl⟩
              refine ⟨hS, ?_⟩
              exact drw_sub (K2455 v2394 v2405 _ HM) (Sub.cons rfl (Sub.cons rfl (Sub.cons rfl (Sub.cons rfl (Sub.cons rfl (Sub.cons rfl (Sub.cons rfl Sub.nil)))))))
            · skip
              replace HM := HM.front 2 rfl rfl
              obtain ⟨F2399, hF2400, hFn2401, hFl2402, HMh2403, hcl2404⟩ := HM.hide (Ms := [box b0 150 [p0_0, .int .i64 t2352.2]])
              refine br_does (l' := (bs 13 125)) rfl (guard_none rfl) rfl rfl (by kernel_rfl) (does_callk rfl callok53 rfl (spec_l1Pick.calls (x0 := (⟨x0.fCode, t2352.2⟩ : l1Src)) (x1 := ([0, 61, 1] : List Int)) (hide_olds _ _) hF2400 hFn2401 hFl2402 (HMh2403.rdo hwo hp0_0) (HMh2403.own_rd 1 rfl) h2398)) ?_
              rintro _ w2471 ⟨rfl, hn⟩
              replace HM : Mem w X w2471 [box b0 150 [p0_0, .int .i64 t2397.2], own kInt 2 v2405 ([0, 4] : List Int), own kInt 2 v2394 ([0, 61, 1] : List Int), box b2346 28 [.int .i64 t2334.1.fKind, .int .i64 t2334.1.fMember, u2336, u2338], own kRef 36 u2336 t2334.1.fIns, own kOut 69 u2338 t2334.1.fOuts, box b2330 28 [.int .i64 0, .int .i64 0, .slice none 0 0, .slice none 0 0]] := hcl2404 _ _ hn
              have hS := Mem.suf (M := [box b0 150 [p0_0, .int .i64 t2397.2], own kInt 2 v2405 ([0, 4] : List Int), own kInt 2 v2394 ([0, 61, 1] : List Int), box b2346 28 [.int .i64 t2334.1.fKind, .int .i64 t2334.1.fMember, u2336, u2338], own kRef 36 u2336 t2334.1.fIns]) HM
              refine ⟨hS, ?_⟩
              replace HM := HM.front 6 rfl rfl
              replace HM := HM.front 6 rfl rfl
              replace HM := HM.front 6 rfl rfl
              replace HM := HM.front 6 rfl rfl
              replace HM := HM.front 6 rfl rfl
              replace HM := HM.front 5 rfl rfl
              replace HM := HM.front 6 rfl rfl
              exact drw_sub (K2458 v2394 v2405 _ HM) (Sub.cons rfl (Sub.cons rfl (Sub.cons rfl (Sub.cons rfl (Sub.cons rfl (Sub.cons rfl Sub.nil))))))
          refine dt 0 (bs 13 1) rfl rfl rfl rfl (by kernel_rfl) (ex_fieldAddr (off' := 2) rfl rfl Try.underlying28 rfl tsz25 rfl) hS ?_
          refine dt 2 (bs 13 5) rfl rfl rfl rfl (by kernel_rfl) (ex_move rfl rfl) hS ?_
          refine dt 5 (bs 13 37) rfl rfl rfl rfl (by kernel_rfl) (ex_move rfl rfl) hS ?_
          refine drw_any [1, 3, 6] (by kernel_rfl) rfl (.cons ?_ (.cons ?_ (.cons ?_ .nil)))
          · skip
            refine br_does (l' := (bs 13 39)) rfl (guard_none rfl) rfl rfl (by kernel_rfl) (does_ex' (ex_load1 rfl rfl Try.underlying25 rfl ((HM.box_at 1 rfl) 2 _ rfl))) ?_
            rintro _ _ ⟨rfl, rfl⟩
            refine ⟨hS, ?_⟩
            refine drw_any [3, 6] (by kernel_rfl) rfl (.cons ?_ (.cons ?_ .nil))
            · skip
              refine br_does (l' := (bs 13 47)) rfl (guard_none rfl) rfl rfl (by kernel_rfl) (does_lit (e := 2) (cs := [.int .i64 0, .int .i64 61, .int .i64 1]) (xs := ([0, 61, 1] : List Int)) kInt rfl rfl (fun _ => by kernel_rfl) rfl rfl (fun _ _ h => by have h' : _ = [] := h; subst h'; exact (Elems.cons (d := kInt) (x := 0) (f := []) ⟨rfl, rfl⟩ (Elems.cons (d := kInt) (x := 61) (f := []) ⟨rfl, rfl⟩ (Elems.cons (d := kInt) (x := 1) (f := []) ⟨rfl, rfl⟩ .nil)))) HM.emp) ?_
              rintro v2394 w2472 HM
              have hS := Mem.suf (M := [own kInt 2 v2394 ([0, 61, 1] : List Int), box b0 150 [p0_0, .int .i64 t2352.2], box b2346 28 [.int .i64 t2334.1.fKind, .int .i64 t2334.1.fMember, u2336, u2338], own kRef 36 u2336 t2334.1.fIns]) HM
              refine ⟨hS, ?_⟩
              exact drw_sub (K2462 v2394 _ HM) (Sub.cons rfl (Sub.cons rfl (Sub.cons rfl (Sub.cons rfl (Sub.cons rfl (Sub.cons rfl Sub.nil))))))
            · skip
              refine br_does (l' := (bs 13 103)) rfl (guard_none rfl) rfl rfl (by kernel_rfl) (does_lit (e := 2) (cs := [.int .i64 0, .int .i64 4]) (xs := ([0, 4] : List Int)) kInt rfl rfl (fun _ => by kernel_rfl) rfl rfl (fun _ _ h => by have h' : _ = [] := h; subst h'; exact (Elems.cons (d := kInt) (x := 0) (f := []) ⟨rfl, rfl⟩ (Elems.cons (d := kInt) (x := 4) (f := []) ⟨rfl, rfl⟩ .nil))) HM.emp) ?_
              rintro v2405 w2473 HM
              have hS := Mem.suf (M := [own kInt 2 v2405 ([0, 4] : List Int), box b0 150 [p0_0, .int .i64 t2352.2], box b2346 28 [.int .i64 t2334.1.fKind, .int .i64 t2334.1.fMember, u2336, u2338], own kRef 36 u2336 t2334.1.fIns]) HM
              refine ⟨hS, ?_⟩
              exact drw_sub (K2466 v2405 _ HM) (Sub.cons rfl (Sub.cons rfl (Sub.cons rfl (Sub.cons rfl (Sub.cons rfl (Sub.cons rfl Sub.nil))))))
          · skip
            refine br_does (l' := (bs 13 45)) rfl (guard_none rfl) rfl rfl (by kernel_rfl) (does_lit (e := 2) (cs := [.int .i64 0, .int .i64 61, .int .i64 1]) (xs := ([0, 61, 1] : List Int)) kInt rfl rfl (fun _ => by kernel_rfl) rfl rfl (fun _ _ h => by have h' : _ = [] := h; subst h'; exact (Elems.cons (d := kInt) (x := 0) (f := []) ⟨rfl, rfl⟩ (Elems.cons (d := kInt) (x := 61) (f := []) ⟨rfl, rfl⟩ (Elems.cons (d := kInt) (x := 1) (f := []) ⟨rfl, rfl⟩ .nil)))) HM.emp) ?_
            rintro v2394 w2474 HM
            have hS := Mem.suf (M := [own kInt 2 v2394 ([0, 61, 1] : List Int), box b0 150 [p0_0, .int .i64 t2352.2], box b2346 28 [.int .i64 t2334.1.fKind, .int .i64 t2334.1.fMember, u2336, u2338], own kRef 36 u2336 t2334.1.fIns]) HM
            refine ⟨hS, ?_⟩
            refine drw_any [1, 4, 6] (by kernel_rfl) rfl (.cons ?_ (.cons ?_ (.cons ?_ .nil)))
            · skip
              refine br_does (l' := (bs 13 47)) rfl (guard_none rfl) rfl rfl (by kernel_rfl) (does_ex' (ex_load1 rfl rfl Try.underlying25 rfl ((HM.box_at 2 rfl) 2 _ rfl))) ?_
              rintro _ _ ⟨rfl, rfl⟩
              refine ⟨hS, ?_⟩
              exact drw_sub (K2462 v2394 _ HM) (Sub.cons rfl (Sub.cons rfl (Sub.cons rfl (Sub.cons rfl (Sub.cons rfl (Sub.cons rfl Sub.nil))))))
            · skip
              replace HM := HM.front 1 rfl rfl
              obtain ⟨F2399, hF2400, hFn2401, hFl2402, HMh2403, hcl2404⟩ := HM.hide (Ms := [box b0 150 [p0_0, .int .i64 t2352.2]])
              refine br_does (l' := (bs 13 61)) rfl (guard_none rfl) rfl rfl (by kernel_rfl) (does_callk rfl callok53 rfl (spec_l1Pick.calls (x0 := (⟨x0.fCode, t2352.2⟩ : l1Src)) (x1 := ([0, 61, 1] : List Int)) (hide_olds _ _) hF2400 hFn2401 hFl2402 (HMh2403.rdo hwo hp0_0) (HMh2403.own_rd 0 rfl) h2398)) ?_
              rintro _ w2475 ⟨rfl, hn⟩
              replace HM : Mem w X w2475 [box b0 150 [p0_0, .int .i64 t2397.2], own kInt 2 v2394 ([0, 61, 1] : List Int), box b2346 28 [.int .i64 t2334.1.fKind, .int .i64 t2334.1.fMember, u2336, u2338], own kRef 36 u2336 t2334.1.fIns, own kOut 69 u2338 t2334.1.fOuts, box b2330 28 [.int .i64 0, .int .i64 0, .slice none 0 0, .slice none 0 0]] := hcl2404 _ _ hn
              have hS := Mem.suf (M := [box b0 150 [p0_0, .int .i64 t2397.2], own kInt 2 v2394 ([0, 61, 1] : List Int), box b2346 28 [.int .i64 t2334.1.fKind, .int .i64 t2334.1.fMember, u2336, u2338], own kRef 36 u2336 t2334.1.fIns]) HM
              refine ⟨hS, ?_⟩
              refine drw_any [1, 6] (by kernel_rfl) rfl (.cons ?_ (.cons ?_ .nil))
              · skip
                refine br_does (l' := (bs 13 63)) rfl (guard_none rfl) rfl rfl (by kernel_rfl) (does_ex' (ex_load1 rfl rfl Try.underlying25 rfl ((HM.box_at 2 rfl) 2 _ rfl))) ?_
                rintro _ _ ⟨rfl, rfl⟩
                refine ⟨hS, ?_⟩
                exact drw_sub (K2452 v2394 _ HM) (Sub.cons rfl (Sub.cons rfl (Sub.cons rfl (Sub.cons rfl (Sub.cons rfl Sub.nil)))))
              · skip
                refine br_does (l' := (bs 13 125)) rfl (guard_none rfl) rfl rfl (by kernel_rfl) (does_lit (e := 2) (cs := [.int .i64 0, .int .i64 4]) (xs := ([0, 4] : List Int)) kInt rfl rfl (fun _ => by kernel_rfl) rfl rfl (fun _ _ h => by have h' : _ = [] := h; subst h'; exact (Elems.cons (d := kInt) (x := 0) (f := []) ⟨rfl, rfl⟩ (Elems.cons (d := kInt) (x := 4) (f := []) ⟨rfl, rfl⟩ .nil))) HM.emp) ?_
                rintro v2405 w2476 HM
                have hS := Mem.suf (M := [own kInt 2 v2405 ([0, 4] : List Int), box b0 150 [p0_0, .int .i64 t2397.2], own kInt 2 v2394 ([0, 61, 1] : List Int), box b2346 28 [.int .i64 t2334.1.fKind, .int .i64 t2334.1.fMember, u2336, u2338], own kRef 36 u2336 t2334.1.fIns]) HM
                refine ⟨hS, ?_⟩
                exact drw_sub (K2458 v2394 v2405 _ HM) (Sub.cons rfl (Sub.cons rfl (Sub.cons rfl (Sub.cons rfl (Sub.cons rfl (Sub.cons rfl Sub.nil))))))
            · skip
              refine br_does (l' := (bs 13 109)) rfl (guard_none rfl) rfl rfl (by kernel_rfl) (does_lit (e := 2) (cs := [.int .i64 0, .int .i64 4]) (xs := ([0, 4] : List Int)) kInt rfl rfl (fun _ => by kernel_rfl) rfl rfl (fun _ _ h => by have h' : _ = [] := h; subst h'; exact (Elems.cons (d := kInt) (x := 0) (f := []) ⟨rfl, rfl⟩ (Elems.cons (d := kInt) (x := 4) (f := []) ⟨rfl, rfl⟩ .nil))) HM.emp) ?_
              rintro v2405 w2477 HM
              have hS := Mem.suf (M := [own kInt 2 v2405 ([0, 4] : List Int), own kInt 2 v2394 ([0, 61, 1] : List Int), box b0 150 [p0_0, .int .i64 t2352.2], box b2346 28 [.int .i64 t2334.1.fKind, .int .i64 t2334.1.fMember, u2336, u2338], own kRef 36 u2336 t2334.1.fIns]) HM
              refine ⟨hS, ?_⟩
              exact drw_sub (K2469 v2394 v2405 _ HM) (Sub.cons rfl (Sub.cons rfl (Sub.cons rfl (Sub.cons rfl (Sub.cons rfl (Sub.cons rfl (Sub.cons rfl Sub.nil)))))))
          · skip
            refine br_does (l' := (bs 13 101)) rfl (guard_none rfl) rfl rfl (by kernel_rfl) (does_lit (e := 2) (cs := [.int .i64 0, .int .i64 4]) (xs := ([0, 4] : List Int)) kInt rfl rfl (fun _ => by kernel_rfl) rfl rfl (fun _ _ h => by have h' : _ = [] := h; subst h'; exact (Elems.cons (d := kInt) (x := 0) (f := []) ⟨rfl, rfl⟩ (Elems.cons (d := kInt) (x := 4) (f := []) ⟨rfl, rfl⟩ .nil))) HM.emp) ?_
            rintro v2405 w2478 HM
            have hS := Mem.suf (M := [own kInt 2 v2405 ([0, 4] : List Int), box b0 150 [p0_0, .int .i64 t2352.2], box b2346 28 [.int .i64 t2334.1.fKind, .int .i64 t2334.1.fMember, u2336, u2338], own kRef 36 u2336 t2334.1.fIns]) HM
            refine ⟨hS, ?_⟩
            refine drw_any [1, 3] (by kernel_rfl) rfl (.cons ?_ (.cons ?_ .nil))
            · skip
              refine br_does (l' := (bs 13 103)) rfl (guard_none rfl) rfl rfl (by kernel_rfl) (does_ex' (ex_load1 rfl rfl Try.underlying25 rfl ((HM.box_at 2 rfl) 2 _ rfl))) ?_
              rintro _ _ ⟨rfl, rfl⟩
              refine ⟨hS, ?_⟩
              exact drw_sub (K2466 v2405 _ HM) (Sub.cons rfl (Sub.cons rfl (Sub.cons rfl (Sub.cons rfl (Sub.cons rfl (Sub.cons rfl Sub.nil))))))
            · skip
              refine br_does (l' := (bs 13 109)) rfl (guard_none rfl) rfl rfl (by kernel_rfl) (does_lit (e := 2) (cs := [.int .i64 0, .int .i64 61, .int .i64 1]) (xs := ([0, 61, 1] : List Int)) kInt rfl rfl (fun _ => by kernel_rfl) rfl rfl (fun _ _ h => by have h' : _ = [] := h; subst h'; exact (Elems.cons (d := kInt) (x := 0) (f := []) ⟨rfl, rfl⟩ (Elems.cons (d := kInt) (x := 61) (f := []) ⟨rfl, rfl⟩ (Elems.cons (d := kInt) (x := 1) (f := []) ⟨rfl, rfl⟩ .nil)))) HM.emp) ?_
              rintro v2394 w2479 HM
              have hS := Mem.suf (M := [own kInt 2 v2394 ([0, 61, 1] : List Int), own kInt 2 v2405 ([0, 4] : List Int), box b0 150 [p0_0, .int .i64 t2352.2], box b2346 28 [.int .i64 t2334.1.fKind, .int .i64 t2334.1.fMember, u2336, u2338], own kRef 36 u2336 t2334.1.fIns]) HM
              refine ⟨hS, ?_⟩
              replace HM := HM.front 6 rfl rfl
              replace HM := HM.front 6 rfl rfl
              replace HM := HM.front 6 rfl rfl
              replace HM := HM.front 6 rfl rfl
              replace HM := HM.front 6 rfl rfl
              replace HM := HM.front 5 rfl rfl
              replace HM := HM.front 6 rfl rfl
              exact drw_sub (K2469 v2394 v2405 _ HM) (Sub.cons rfl (Sub.cons rfl (Sub.cons rfl (Sub.cons rfl (Sub.cons rfl (Sub.cons rfl (Sub.cons rfl Sub.nil)))))))
        · rintro _ w2480 ⟨v2420, rfl, HM⟩
          refine at_block ?_
          refine at_then ?_
          refine run_seq ?_
          refine run_region rfl ?_
          refine ox rfl rfl rfl rfl (ex_loadN (cs := [(.int .i64 t2334.1.fKind), (.int .i64 t2334.1.fMember), v2420, u2338]) rfl rfl Try.underlying28 rfl tsz28 rfl ((HM.box_at 2 rfl).sub 0 4 rfl)) ?_
          replace HM := HM.front 1 rfl rfl
          refine odS rfl rfl rfl (does_store (vs := [.int .i64 t2334.1.fKind, .int .i64 t2334.1.fMember, v2420, u2338]) (cs' := [.int .i64 t2334.1.fKind, .int .i64 t2334.1.fMember, v2420, u2338]) rfl rfl rfl rfl tsz28 (Ones.int (Ones.int (Ones.rd (HM.own_rd 3 rfl) (Ones.rd (HM.own_rd 4 rfl) Ones.nil)))) rfl rfl HM) ?_
          rintro w2481 HM
          refine ops_nil (at_then ?_)
          refine run_ret ?_
          replace HM := (HM.front 2 rfl rfl).drop
          replace HM := HM.front 1 rfl rfl
          replace HM := HM.front 3 rfl rfl
          replace HM := HM.front 3 rfl rfl
          replace HM := HM.front 3 rfl rfl
          have hcb0 := HM.box_at 0 rfl
          replace HM := (HM.front 0 rfl rfl).drop
          have hR := Option.some.inj H
          subst hR
          exact at_retN rfl rfl Try.underlying28 rfl tsz28 rfl hcb0 ⟨_, rfl, _, _, rfl, HM⟩
      · replace H := cond_f hb2393 H
        refine run_seq ?_
        refine run_region rfl ?_
        refine ox rfl rfl rfl rfl (ex_eql rfl rfl rfl) ?_
        refine ox rfl rfl rfl rfl (ex_assign rfl rfl) ?_
        refine ops_nil (at_then ?_)
        refine run_cond (b := (t2352.1 == 3)) rfl (fun hb2482 => ?_) (fun hb2482 => ?_)
        · replace H := cond_t hb2482 H
          obtain ⟨t2486, h2487, H⟩ := bind_some H
          obtain ⟨e2494, H⟩ := chk_some H
          replace HM := HM.front 3 rfl rfl
          replace HM := HM.front 1 rfl rfl
          refine run_drawf (fun w_ => Mem w X w_ [box b2346 28 [.int .i64 t2334.1.fKind, .int .i64 t2334.1.fMember, u2336, u2338], own kRef 36 u2336 t2334.1.fIns, box b2330 28 [.int .i64 0, .int .i64 0, .slice none 0 0, .slice none 0 0]]) [(0, true), (1, true), (2, true), (3, false), (4, false), (5, true), (6, true), (7, false)] mixed rfl rfl (by kernel_rfl) ?_
          replace HM := HM.grow (fr_drew _)
          have hS := Mem.suf (M := [box b0 150 [p0_0, .int .i64 t2352.2], own kOut 69 u2338 t2334.1.fOuts]) HM
          refine dp rfl rfl rfl rfl (ex_fieldAddr (off' := 3) rfl rfl Try.underlying28 rfl tsz26 rfl) hS ?_
          refine drwp_take rfl (guard_none rfl) rfl rfl (fun w_ hS_ => (ex_load1 rfl rfl Try.underlying26 rfl ((hS_.box_at 0 rfl) 3 _ rfl))) hS ?_
          refine dp rfl rfl rfl rfl (ex_move rfl rfl) hS ?_
          refine drwp_one rfl (guard_none rfl) rfl rfl (does_lit (e := 2) (cs := [.int .i64 0, .int .i64 1, .int .i64 1000001, .int .i64 99]) (xs := ([0, 1, 1000001, 99] : List Int)) kInt rfl rfl (fun _ => by kernel_rfl) rfl rfl (fun _ _ h => by have h' : _ = [] := h; subst h'; exact (Elems.cons (d := kInt) (x := 0) (f := []) ⟨rfl, rfl⟩ (Elems.cons (d := kInt) (x := 1) (f := []) ⟨rfl, rfl⟩ (Elems.cons (d := kInt) (x := 1000001) (f := []) ⟨rfl, rfl⟩ (Elems.cons (d := kInt) (x := 99) (f := []) ⟨rfl, rfl⟩ .nil))))) HM.emp) ?_
          rintro v2483 w2495 HM
          have hS := Mem.suf (M := [own kInt 2 v2483 ([0, 1, 1000001, 99] : List Int), box b0 150 [p0_0, .int .i64 t2352.2], own kOut 69 u2338 t2334.1.fOuts]) HM
          refine ⟨hS, ?_⟩
          replace HM := HM.front 1 rfl rfl
          obtain ⟨F2488, hF2489, hFn2490, hFl2491, HMh2492, hcl2493⟩ := HM.hide (Ms := [box b0 150 [p0_0, .int .i64 t2352.2]])
          refine drwp_one rfl (guard_none rfl) rfl rfl (does_callk rfl callok53 rfl (spec_l1Pick.calls (x0 := (⟨x0.fCode, t2352.2⟩ : l1Src)) (x1 := ([0, 1, 1000001, 99] : List Int)) (hide_olds _ _) hF2489 hFn2490 hFl2491 (HMh2492.rdo hwo hp0_0) (HMh2492.own_rd 0 rfl) h2487)) ?_
          rintro _ w2496 ⟨rfl, hn⟩
          replace HM : Mem w X w2496 [box b0 150 [p0_0, .int .i64 t2486.2], own kInt 2 v2483 ([0, 1, 1000001, 99] : List Int), own kOut 69 u2338 t2334.1.fOuts, box b2346 28 [.int .i64 t2334.1.fKind, .int .i64 t2334.1.fMember, u2336, u2338], own kRef 36 u2336 t2334.1.fIns, box b2330 28 [.int .i64 0, .int .i64 0, .slice none 0 0, .slice none 0 0]] := hcl2493 _ _ hn
          have hS := Mem.suf (M := [box b0 150 [p0_0, .int .i64 t2486.2], own kInt 2 v2483 ([0, 1, 1000001, 99] : List Int), own kOut 69 u2338 t2334.1.fOuts]) HM
          refine ⟨hS, ?_⟩
          refine dp rfl rfl rfl rfl (ex_indexAddr (d := kOut) rfl rfl rfl Try.underlying26 tsz69 (HM.own_rd 2 rfl) (idx_lo e2494) (idx_hi e2494)) hS ?_
          refine dp rfl rfl rfl rfl (ex_fieldAddr (off' := so u2338 + ((0 : Int)).toNat * 4) rfl rfl Try.underlying69 rfl tsz2 rfl) hS ?_
          replace HM := HM.front 2 rfl rfl
          refine drwp_oneS rfl (guard_none rfl) rfl (does_setField (fo := 0) (vs := [(.int .i64 t2486.1)]) (y := (⟨t2486.1, (gt t2334.1.fOuts (0 : Int)).fRule⟩ : Out)) kOut rfl rfl rfl rfl rfl tsz2 (Ones.int Ones.nil) rfl rfl (idx_nat e2494) (fun _ _ _ h => by rw [← gt_eq (idx_nat e2494)] at h; obtain ⟨_, rfl, h2⟩ := h; exact ⟨_, rfl, h2⟩) HM) ?_
          rintro w2497 HM
          have hS := Mem.suf (M := [own kOut 69 u2338 (t2334.1.fOuts.set ((0 : Int)).toNat (⟨t2486.1, (gt t2334.1.fOuts (0 : Int)).fRule⟩ : Out)), box b0 150 [p0_0, .int .i64 t2486.2], own kInt 2 v2483 ([0, 1, 1000001, 99] : List Int)]) HM
          refine ⟨hS, ?_⟩
          refine drwp_done ?_
          refine at_block ?_
          refine at_then ?_
          refine run_seq ?_
          refine run_region rfl ?_
          refine ox rfl rfl rfl rfl (ex_loadN (cs := [(.int .i64 t2334.1.fKind), (.int .i64 t2334.1.fMember), u2336, u2338]) rfl rfl Try.underlying28 rfl tsz28 rfl ((HM.box_at 3 rfl).sub 0 4 rfl)) ?_
          replace HM := HM.front 5 rfl rfl
          refine odS rfl rfl rfl (does_store (vs := [.int .i64 t2334.1.fKind, .int .i64 t2334.1.fMember, u2336, u2338]) (cs' := [.int .i64 t2334.1.fKind, .int .i64 t2334.1.fMember, u2336, u2338]) rfl rfl rfl rfl tsz28 (Ones.int (Ones.int (Ones.rd (HM.own_rd 5 rfl) (Ones.rd (HM.own_rd 1 rfl) Ones.nil)))) rfl rfl HM) ?_
          rintro w2498 HM
          refine ops_nil (at_then ?_)
          refine run_ret ?_
          replace HM := (HM.front 3 rfl rfl).drop
          replace HM := (HM.front 3 rfl rfl).drop
          replace HM := HM.front 2 rfl rfl
          replace HM := HM.front 2 rfl rfl
          replace HM := HM.front 3 rfl rfl
          replace HM := HM.front 3 rfl rfl
          have hcb0 := HM.box_at 0 rfl
          replace HM := (HM.front 0 rfl rfl).drop
          have hR := Option.some.inj H
          subst hR
          exact at_retN rfl rfl Try.underlying28 rfl tsz28 rfl hcb0 ⟨_, rfl, _, _, rfl, HM⟩
        · replace H := cond_f hb2482 H
          refine run_seq ?_
          refine run_region rfl ?_
          refine ox rfl rfl rfl rfl (ex_eql rfl rfl rfl) ?_
          refine ox rfl rfl rfl rfl (ex_assign rfl rfl) ?_
          refine ops_nil (at_then ?_)
          refine run_cond (b := (t2352.1 == 4)) rfl (fun hb2499 => ?_) (fun hb2499 => ?_)
          · replace H := cond_t hb2499 H
            obtain ⟨t2500, h2501, H⟩ := bind_some H
            obtain ⟨e2510, H⟩ := chk_some H
            replace HM := HM.front 3 rfl rfl
            replace HM := HM.front 1 rfl rfl
            refine run_drawf (fun w_ => Mem w X w_ [box b2346 28 [.int .i64 t2334.1.fKind, .int .i64 t2334.1.fMember, u2336, u2338], own kRef 36 u2336 t2334.1.fIns, box b2330 28 [.int .i64 0, .int .i64 0, .slice none 0 0, .slice none 0 0]]) [(0, true), (1, true), (2, true), (3, false), (4, true), (5, true), (6, false)] mixed rfl rfl (by kernel_rfl) ?_
            replace HM := HM.grow (fr_drew _)
            have hS := Mem.suf (M := [box b0 150 [p0_0, .int .i64 t2352.2], own kOut 69 u2338 t2334.1.fOuts]) HM
            refine dp rfl rfl rfl rfl (ex_fieldAddr (off' := 3) rfl rfl Try.underlying28 rfl tsz26 rfl) hS ?_
            refine drwp_take rfl (guard_none rfl) rfl rfl (fun w_ hS_ => (ex_load1 rfl rfl Try.underlying26 rfl ((hS_.box_at 0 rfl) 3 _ rfl))) hS ?_
            refine dp rfl rfl rfl rfl (ex_move rfl rfl) hS ?_
            obtain ⟨F2504, hF2505, hFn2506, hFl2507, HMh2508, hcl2509⟩ := HM.hide (Ms := [box b0 150 [p0_0, .int .i64 t2352.2]])
            refine drwp_one rfl (guard_none rfl) rfl rfl (does_callk rfl callok76 rfl (spec_l2Bent.calls (x0 := (⟨x0.fCode, t2352.2⟩ : l1Src)) (hide_olds _ _) hF2505 hFn2506 hFl2507 (HMh2508.rdo hwo hp0_0) h2501)) ?_
            rintro _ w2511 ⟨u2502, rfl, hn⟩
            replace HM : Mem w X w2511 [own kInt 2 u2502 t2500.1.fKeys, box b0 150 [p0_0, .int .i64 t2500.2], own kOut 69 u2338 t2334.1.fOuts, box b2346 28 [.int .i64 t2334.1.fKind, .int .i64 t2334.1.fMember, u2336, u2338], own kRef 36 u2336 t2334.1.fIns, box b2330 28 [.int .i64 0, .int .i64 0, .slice none 0 0, .slice none 0 0]] := hcl2509 _ _ hn
            have hS := Mem.suf (M := [own kInt 2 u2502 t2500.1.fKeys, box b0 150 [p0_0, .int .i64 t2500.2], own kOut 69 u2338 t2334.1.fOuts]) HM
            refine ⟨hS, ?_⟩
            refine dp rfl rfl rfl rfl (ex_indexAddr (d := kOut) rfl rfl rfl Try.underlying26 tsz69 (HM.own_rd 2 rfl) (idx_lo e2510) (idx_hi e2510)) hS ?_
            refine dp rfl rfl rfl rfl (ex_fieldAddr (off' := so u2338 + ((0 : Int)).toNat * 4 + 1) rfl rfl Try.underlying69 rfl tsz67 rfl) hS ?_
            replace HM := HM.front 2 rfl rfl
            refine drwp_oneS rfl (guard_none rfl) rfl (does_setFieldRow (fo := 1) (vs := [u2502, (.int .i64 t2500.1.fNeed), (.int .i64 t2500.1.fAfter)]) (y := (⟨(gt t2334.1.fOuts (0 : Int)).fValue, (⟨t2500.1.fKeys, t2500.1.fNeed, t2500.1.fAfter⟩ : Rule)⟩ : Out)) kOut rfl rfl rfl rfl rfl tsz67 (Ones.rd (HM.own_rd 1 rfl) (Ones.int (Ones.int Ones.nil))) rfl rfl (idx_nat e2510) (fun _ _ _ _ h hC => by rw [← gt_eq (idx_nat e2510)] at h; obtain ⟨_, rfl, _⟩ := h; exact ⟨_, rfl, hC⟩) HM) ?_
            rintro w2512 HM
            have hS := Mem.suf (M := [own kOut 69 u2338 (t2334.1.fOuts.set ((0 : Int)).toNat (⟨(gt t2334.1.fOuts (0 : Int)).fValue, (⟨t2500.1.fKeys, t2500.1.fNeed, t2500.1.fAfter⟩ : Rule)⟩ : Out)), box b0 150 [p0_0, .int .i64 t2500.2]]) HM
            refine ⟨hS, ?_⟩
            refine drwp_done ?_
            refine at_block ?_
            refine at_then ?_
            refine run_seq ?_
            refine run_region rfl ?_
            refine ox rfl rfl rfl rfl (ex_loadN (cs := [(.int .i64 t2334.1.fKind), (.int .i64 t2334.1.fMember), u2336, u2338]) rfl rfl Try.underlying28 rfl tsz28 rfl ((HM.box_at 2 rfl).sub 0 4 rfl)) ?_
            replace HM := HM.front 4 rfl rfl
            refine odS rfl rfl rfl (does_store (vs := [.int .i64 t2334.1.fKind, .int .i64 t2334.1.fMember, u2336, u2338]) (cs' := [.int .i64 t2334.1.fKind, .int .i64 t2334.1.fMember, u2336, u2338]) rfl rfl rfl rfl tsz28 (Ones.int (Ones.int (Ones.rd (HM.own_rd 4 rfl) (Ones.rd (HM.own_rd 1 rfl) Ones.nil)))) rfl rfl HM) ?_
            rintro w2513 HM
            refine ops_nil (at_then ?_)
            refine run_ret ?_
            replace HM := (HM.front 3 rfl rfl).drop
            replace HM := HM.front 2 rfl rfl
            replace HM := HM.front 2 rfl rfl
            replace HM := HM.front 3 rfl rfl
            replace HM := HM.front 3 rfl rfl
            have hcb0 := HM.box_at 0 rfl
            replace HM := (HM.front 0 rfl rfl).drop
            have hR := Option.some.inj H
            subst hR
            exact at_retN rfl rfl Try.underlying28 rfl tsz28 rfl hcb0 ⟨_, rfl, _, _, rfl, HM⟩
          · replace H := cond_f hb2499 H
            refine run_seq ?_
            refine run_region rfl ?_
            refine ox rfl rfl rfl rfl (ex_eql rfl rfl rfl) ?_
            refine ox rfl rfl rfl rfl (ex_assign rfl rfl) ?_
            refine ops_nil (at_then ?_)
            refine run_cond (b := (t2352.1 == 5)) rfl (fun hb2514 => ?_) (fun hb2514 => ?_)
            · replace H := cond_t hb2514 H
              refine run_region rfl ?_
              refine ox rfl rfl rfl rfl (ex_fieldAddr (off' := 2) rfl rfl Try.underlying28 rfl tsz25 rfl) ?_
              replace HM := HM.front 1 rfl rfl
              refine odS rfl rfl rfl (does_store (vs := [.slice none 0 0]) (cs' := [.int .i64 t2334.1.fKind, .int .i64 t2334.1.fMember, .slice none 0 0, u2338]) rfl rfl rfl rfl tsz25 (Ones.sl Ones.nil) rfl rfl HM) ?_
              rintro w2515 HM
              refine ops_nil ?_
              refine at_block ?_
              refine at_then ?_
              refine run_seq ?_
              refine run_region rfl ?_
              refine ox rfl rfl rfl rfl (ex_loadN (cs := [(.int .i64 t2334.1.fKind), (.int .i64 t2334.1.fMember), (.slice none 0 0), u2338]) rfl rfl Try.underlying28 rfl tsz28 rfl ((HM.box_at 0 rfl).sub 0 4 rfl)) ?_
              replace HM := HM.front 4 rfl rfl
              refine odS rfl rfl rfl (does_store (vs := [.int .i64 t2334.1.fKind, .int .i64 t2334.1.fMember, .slice none 0 0, u2338]) (cs' := [.int .i64 t2334.1.fKind, .int .i64 t2334.1.fMember, .slice none 0 0, u2338]) rfl rfl rfl rfl tsz28 (Ones.int (Ones.int (Ones.sl (Ones.rd (HM.own_rd 4 rfl) Ones.nil)))) rfl rfl HM) ?_
              rintro w2516 HM
              refine ops_nil (at_then ?_)
              refine run_ret ?_
              replace HM := HM.empty kRef 36 none
              replace HM := (HM.front 2 rfl rfl).drop
              replace HM := (HM.front 3 rfl rfl).drop
              replace HM := HM.front 2 rfl rfl
              replace HM := HM.front 3 rfl rfl
              replace HM := HM.front 2 rfl rfl
              replace HM := HM.front 3 rfl rfl
              have hcb0 := HM.box_at 0 rfl
              replace HM := (HM.front 0 rfl rfl).drop
              have hR := Option.some.inj H
              subst hR
              exact at_retN rfl rfl Try.underlying28 rfl tsz28 rfl hcb0 ⟨_, rfl, _, _, rfl, HM⟩
            · replace H := cond_f hb2514 H
              refine run_seq ?_
              refine run_region rfl ?_
              refine ox rfl rfl rfl rfl (ex_eql rfl rfl rfl) ?_
              refine ox rfl rfl rfl rfl (ex_assign rfl rfl) ?_
              refine ops_nil (at_then ?_)
              refine run_cond (b := (t2352.1 == 6)) rfl (fun hb2518 => ?_) (fun hb2518 => ?_)
              · replace H := cond_t hb2518 H
                obtain ⟨e2522, H⟩ := chk_some H
                obtain ⟨e2523, H⟩ := chk_some H
                refine run_region rfl ?_
                refine od rfl rfl rfl rfl (does_make (x := (⟨0, (⟨[], 0, 0⟩ : Rule)⟩ : Out)) kOut rfl rfl rfl Try.underlying26 tsz69 tby69 tz69 rfl rfl (fun _ => ⟨.slice none 0 0, rfl, OwS.nil _ _ _ _⟩) (of_decide_eq_true e2522) rfl (leB_le e2523) rfl HM) ?_
                rintro v2519 w2524 HM
                refine ox rfl rfl rfl rfl (ex_fieldAddr (off' := 3) rfl rfl Try.underlying28 rfl tsz26 rfl) ?_
                replace HM := HM.front 2 rfl rfl
                refine odS rfl rfl rfl (does_store (vs := [v2519]) (cs' := [.int .i64 t2334.1.fKind, .int .i64 t2334.1.fMember, u2336, v2519]) rfl rfl rfl (rd_cells (HM.own_rd 1 rfl)) tsz26 (Ones.rd (HM.own_rd 1 rfl) Ones.nil) rfl rfl HM) ?_
                rintro w2525 HM
                refine ops_nil ?_
                refine at_block ?_
                refine at_then ?_
                refine run_seq ?_
                refine run_region rfl ?_
                refine ox rfl rfl rfl rfl (ex_loadN (cs := [(.int .i64 t2334.1.fKind), (.int .i64 t2334.1.fMember), u2336, v2519]) rfl rfl Try.underlying28 rfl tsz28 rfl ((HM.box_at 0 rfl).sub 0 4 rfl)) ?_
                replace HM := HM.front 5 rfl rfl
                refine odS rfl rfl rfl (does_store (vs := [.int .i64 t2334.1.fKind, .int .i64 t2334.1.fMember, u2336, v2519]) (cs' := [.int .i64 t2334.1.fKind, .int .i64 t2334.1.fMember, u2336, v2519]) rfl rfl rfl rfl tsz28 (Ones.int (Ones.int (Ones.rd (HM.own_rd 4 rfl) (Ones.rd (HM.own_rd 2 rfl) Ones.nil)))) rfl rfl HM) ?_
                rintro w2526 HM
                refine ops_nil (at_then ?_)
                refine run_ret ?_
                replace HM := (HM.front 1 rfl rfl).drop
                replace HM := (HM.front 4 rfl rfl).drop
                replace HM := HM.front 2 rfl rfl
                replace HM := HM.front 2 rfl rfl
                replace HM := HM.front 3 rfl rfl
                replace HM := HM.front 3 rfl rfl
                have hcb0 := HM.box_at 0 rfl
                replace HM := (HM.front 0 rfl rfl).drop
                have hR := Option.some.inj H
                subst hR
                exact at_retN rfl rfl Try.underlying28 rfl tsz28 rfl hcb0 ⟨_, rfl, _, _, rfl, HM⟩
              · replace H := cond_f hb2518 H
                refine run_skip ?_
                refine at_block ?_
                refine at_then ?_
                refine run_seq ?_
                refine run_region rfl ?_
                refine ox rfl rfl rfl rfl (ex_loadN (cs := [(.int .i64 t2334.1.fKind), (.int .i64 t2334.1.fMember), u2336, u2338]) rfl rfl Try.underlying28 rfl tsz28 rfl ((HM.box_at 1 rfl).sub 0 4 rfl)) ?_
                replace HM := HM.front 4 rfl rfl
                refine odS rfl rfl rfl (does_store (vs := [.int .i64 t2334.1.fKind, .int .i64 t2334.1.fMember, u2336, u2338]) (cs' := [.int .i64 t2334.1.fKind, .int .i64 t2334.1.fMember, u2336, u2338]) rfl rfl rfl rfl tsz28 (Ones.int (Ones.int (Ones.rd (HM.own_rd 3 rfl) (Ones.rd (HM.own_rd 4 rfl) Ones.nil)))) rfl rfl HM) ?_
                rintro w2527 HM
                refine ops_nil (at_then ?_)
                refine run_ret ?_
                replace HM := (HM.front 2 rfl rfl).drop
                replace HM := HM.front 1 rfl rfl
                replace HM := HM.front 3 rfl rfl
                replace HM := HM.front 3 rfl rfl
                replace HM := HM.front 3 rfl rfl
                have hcb0 := HM.box_at 0 rfl
                replace HM := (HM.front 0 rfl rfl).drop
                have hR := Option.some.inj H
                subst hR
                exact at_retN rfl rfl Try.underlying28 rfl tsz28 rfl hcb0 ⟨_, rfl, _, _, rfl, HM⟩
end Go.Proofs.Ytbbcabpnkdilgaa.Zk
