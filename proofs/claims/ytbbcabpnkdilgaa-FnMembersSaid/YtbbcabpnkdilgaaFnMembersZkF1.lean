/- What functions of the program compute, each as a plain function, and that they do. Conditions: as each theorem states them. -/
import Derived.Test.YtbbcabpnkdilgaaFnMembersZkF0
namespace Go.Proofs.Ytbbcabpnkdilgaa.Zk
open Go Go.RowKit Go.IntWalk Go.Proofs
set_option linter.unusedVariables false
set_option linter.unusedSimpArgs false
set_option maxRecDepth 100000
set_option maxHeartbeats 4000000
def spec_l3Among.l0 (x0 : List Ref) (x1 : Ref) : Nat → Int → Option (Bool ⊕ Unit)
  | 0, _ => none
  | k + 1, a852 => (bif (decide (a852 < (x0.length : Int))) then (chk (idxOk a852 x0.length) (bif ((((gt x0 a852).fTx) == x1.fTx) && (((gt x0 a852).fAt) == x1.fAt)) then some (.inl true) else spec_l3Among.l0 x0 x1 k (wrap64 (a852 + 1)))) else some (.inr ()))
theorem spec_l3Among.l0_z (x0 : List Ref) (x1 : Ref) (a852 : Int) : spec_l3Among.l0 x0 x1 0 a852 = none := rfl
theorem spec_l3Among.l0_s (x0 : List Ref) (x1 : Ref) (k : Nat) (a852 : Int) : spec_l3Among.l0 x0 x1 (k + 1) a852 = (bif (decide (a852 < (x0.length : Int))) then (chk (idxOk a852 x0.length) (bif ((((gt x0 a852).fTx) == x1.fTx) && (((gt x0 a852).fAt) == x1.fAt)) then some (.inl true) else spec_l3Among.l0 x0 x1 k (wrap64 (a852 + 1)))) else some (.inr ())) := rfl
def spec_l3Among.f (k : Nat) (x0 : List Ref) (x1 : Ref) : Option Bool := ((spec_l3Among.l0 x0 x1 k 0).bind fun o846 => thn o846 (fun r => some r) (fun _ => some false))
theorem spec_l3Among.calls {k : Nat} {x0 : List Ref} {x1 : Ref} {p0 : Value} {w : World} (hp0 : RdS kRef w p0 x0) {r : Bool} (H : spec_l3Among.f k x0 x1 = some r) :
    Calls Try.prog 104 ([p0, .agg #[(.int .i64 x1.fTx), (.int .i64 x1.fAt)]] : List Value).toArray w (fun e w_ => ∃ v, e = .returned v ∧ v = (.bool r) ∧ Mem w [] w_ []) := by
  have HM := Mem.start w
  refine calls_run (N := 18) Try.func104 rfl rfl rfl rfl ?_
  unfold spec_l3Among.f at H
  refine run_seq ?_
  refine run_region rfl ?_
  refine od rfl rfl rfl rfl (does_box (cs := [.int .i64 x1.fTx, .int .i64 x1.fAt]) rfl rfl rfl HM) ?_
  rintro _ w832 ⟨b829, rfl, HM⟩
  refine ox rfl rfl rfl rfl (ex_assign rfl rfl) ?_
  refine ops_nil (at_then ?_)
  obtain ⟨o846, ho847, H⟩ := bind_some H
  refine run_mid (fun ρ_ w_ => Sum.inr () = o846 ∧ ρ_ = [] ∧ Mem w [] w_ []) ?_ ?_
  · skip
    refine run_seq ?_
    refine run_region rfl ?_
    refine ox rfl rfl rfl rfl (ex_assign rfl rfl) ?_
    refine ops_nil (at_then ?_)
    refine run_block ?_
    refine run_loop (fun k_ ρ_ w_ => ∃ a852 : Int, spec_l3Among.l0 x0 x1 k_ a852 = some o846 ∧ ρ_ = [(0, p0), (3, .pointer (some ⟨b829, 0, none⟩)), (5, .int .i64 a852)] ∧ Mem w [] w_ [box b829 36 [.int .i64 x1.fTx, .int .i64 x1.fAt]]) k (ρ1 := [(0, p0), (3, .pointer (some ⟨b829, 0, none⟩)), (5, .int .i64 0)]) ⟨_, ho847, rfl, HM⟩ (Sub.cons rfl (Sub.cons rfl (Sub.cons rfl Sub.nil))) ?_
    clear HM ho847
    rintro k857 _ w858 ⟨a852, ho847, rfl, HM⟩
    obtain _ | k857 := k857
    · exact nomatch ((spec_l3Among.l0_z x0 x1 a852).symm.trans ho847)
    replace ho847 := (spec_l3Among.l0_s x0 x1 k857 a852).symm.trans ho847
    refine run_seq ?_
    refine run_seq ?_
    refine run_region rfl ?_
    refine ox rfl rfl rfl rfl (ex_move rfl rfl) ?_
    refine ox rfl rfl rfl rfl (ex_move rfl rfl) ?_
    refine ox rfl rfl rfl rfl (ex_len (d := kRef) (xs := x0) rfl rfl Try.underlying25 hp0) ?_
    refine ox rfl rfl rfl rfl (ex_lss rfl rfl rfl) ?_
    refine ops_nil (at_then ?_)
    refine run_cond (b := (decide (a852 < (x0.length : Int)))) rfl (fun hb859 => ?_) (fun hb859 => ?_)
    · replace ho847 := cond_t hb859 ho847
      refine run_skip ?_
      refine at_then ?_
      refine run_seq ?_
      refine run_block ?_
      refine run_seq ?_
      obtain ⟨e860, ho847⟩ := chk_some ho847
      refine run_drawf (fun w_ => Mem w [] w_ [box b829 36 [.int .i64 x1.fTx, .int .i64 x1.fAt]]) [(0, true), (1, true), (2, true), (3, true), (4, true), (5, true)] mixed rfl rfl (by kernel_rfl) ?_
      replace HM := HM.grow (fr_drew _)
      have hS := Mem.suf (M := []) HM
      refine dp rfl rfl rfl rfl (ex_move rfl rfl) hS ?_
      refine dp rfl rfl rfl rfl (ex_move rfl rfl) hS ?_
      have hc861 : CellsAt _ (sb p0) (so p0 + (a852).toNat * 2) [(.int .i64 ((gt x0 a852).fTx)), (.int .i64 ((gt x0 a852).fAt))] := rd_plain hp0 e860
      refine dp rfl rfl rfl rfl (ex_indexAddr (d := kRef) rfl rfl rfl Try.underlying25 tsz36 hp0 (idx_lo e860) (idx_hi e860)) hS ?_
      refine drwp_take rfl (guard_none rfl) rfl rfl (fun w_ hS_ => (ex_loadN (cs := [(.int .i64 ((gt x0 a852).fTx)), (.int .i64 ((gt x0 a852).fAt))]) rfl rfl Try.underlying36 rfl tsz36 rfl ((hS_.at_ hc861).sub 0 2 rfl))) hS ?_
      refine drwp_take rfl (guard_none rfl) rfl rfl (fun w_ hS_ => (ex_loadN (cs := [(.int .i64 x1.fTx), (.int .i64 x1.fAt)]) rfl rfl Try.underlying36 rfl tsz36 rfl ((hS_.box_at 0 rfl).sub 0 2 rfl))) hS ?_
      refine dp rfl rfl rfl rfl (ex_aeql rfl rfl rfl (by kernel_rfl) (eqs36 _ _ _ _ _)) hS ?_
      refine drwp_done ?_
      refine at_then ?_
      refine run_cond (b := ((((gt x0 a852).fTx) == x1.fTx) && (((gt x0 a852).fAt) == x1.fAt))) rfl (fun hb862 => ?_) (fun hb862 => ?_)
      · replace ho847 := cond_t hb862 ho847
        refine run_seq ?_
        refine run_region rfl ?_
        refine ox rfl rfl rfl rfl (ex_assign rfl rfl) ?_
        refine ops_nil (at_then ?_)
        refine run_ret ?_
        refine at_block_ret ?_
        refine at_then_ret ?_
        refine at_then_ret ?_
        refine at_block_ret ?_
        refine at_then_ret ?_
        replace HM := (HM.front 0 rfl rfl).drop
        have hR := Option.some.inj ho847
        subst hR
        have hT := thn_inl H
        have hR := Option.some.inj hT
        subst hR
        exact at_ret1 rfl rfl ⟨_, rfl, rfl, HM⟩
      · replace ho847 := cond_f hb862 ho847
        refine run_skip ?_
        refine at_block ?_
        refine at_then ?_
        refine run_region rfl ?_
        refine ox rfl rfl rfl rfl (ex_move rfl rfl) ?_
        refine ox rfl rfl rfl rfl (ex_add rfl rfl rfl) ?_
        refine ox rfl rfl rfl rfl (ex_assign rfl rfl) ?_
        refine ops_nil ?_
        exact at_again k857 (ρ1 := [(0, p0), (3, .pointer (some ⟨b829, 0, none⟩)), (5, .int .i64 (wrap64 (a852 + 1)))]) (Nat.lt_succ_self _) ⟨_, ho847, rfl, HM⟩ (Sub.cons rfl (Sub.cons rfl (Sub.cons rfl Sub.nil)))
    · replace ho847 := cond_f hb859 ho847
      refine run_exit ?_
      refine at_then_exit ?_
      refine at_then_exit ?_
      refine at_block_exit ?_
      replace HM := (HM.front 0 rfl rfl).drop
      exact at_mid (ρ' := []) ⟨(Option.some.inj ho847), rfl, HM⟩ Sub.nil
  · rintro _ w863 ⟨rfl, rfl, HM⟩
    replace H := (thn_inr H)
    refine run_seq ?_
    refine run_region rfl ?_
    refine ox rfl rfl rfl rfl (ex_assign rfl rfl) ?_
    refine ops_nil (at_then ?_)
    refine run_ret ?_
    have hR := Option.some.inj H
    subst hR
    exact at_ret1 rfl rfl ⟨_, rfl, rfl, HM⟩

def spec_l2Draw.l0 (x0 : l1Src) : Nat → Int → (List Int) → Int → Option (Int × (List Int))
  | 0, _, _, _ => none
  | k + 1, a1222, a1224, a1226 => (bif (decide (0 < a1226)) then (chk (idxOk (wrap64 ((a1224.length : Int) - 1)) a1224.length) ((spec_l1Next.f k (⟨x0.fCode, a1222⟩ : l1Src) 2).bind fun t1247 => (chk (leB ((a1224.length + ([wrap64 ((wrap64 ((gt a1224 (wrap64 ((a1224.length : Int) - 1))) + 1)) + t1247.1)] : List Int).length) * 8) 140737488355328) (spec_l2Draw.l0 x0 k t1247.2 (a1224 ++ ([wrap64 ((wrap64 ((gt a1224 (wrap64 ((a1224.length : Int) - 1))) + 1)) + t1247.1)] : List Int)) (wrap64 (a1226 - 1)))))) else some (a1222, a1224))
theorem spec_l2Draw.l0_z (x0 : l1Src) (a1222 : Int) (a1224 : List Int) (a1226 : Int) : spec_l2Draw.l0 x0 0 a1222 a1224 a1226 = none := rfl
theorem spec_l2Draw.l0_s (x0 : l1Src) (k : Nat) (a1222 : Int) (a1224 : List Int) (a1226 : Int) : spec_l2Draw.l0 x0 (k + 1) a1222 a1224 a1226 = (bif (decide (0 < a1226)) then (chk (idxOk (wrap64 ((a1224.length : Int) - 1)) a1224.length) ((spec_l1Next.f k (⟨x0.fCode, a1222⟩ : l1Src) 2).bind fun t1247 => (chk (leB ((a1224.length + ([wrap64 ((wrap64 ((gt a1224 (wrap64 ((a1224.length : Int) - 1))) + 1)) + t1247.1)] : List Int).length) * 8) 140737488355328) (spec_l2Draw.l0 x0 k t1247.2 (a1224 ++ ([wrap64 ((wrap64 ((gt a1224 (wrap64 ((a1224.length : Int) - 1))) + 1)) + t1247.1)] : List Int)) (wrap64 (a1226 - 1)))))) else some (a1222, a1224)) := rfl
def spec_l2Draw.f (k : Nat) (x0 : l1Src) : Option (Rule × Int) := ((spec_l1Next.f k x0 3).bind fun t1112 => (((spec_l1Next.f k (⟨x0.fCode, t1112.2⟩ : l1Src) 3).bind fun t1197 => spec_l2Draw.l0 x0 k t1197.2 ([wrap64 (1 + t1112.1)] : List Int) t1197.1).bind (cur2 (fun a1191 a1193 => ((spec_l1Next.f k (⟨x0.fCode, a1191⟩ : l1Src) (a1193.length : Int)).bind fun t1329 => ((spec_l1Next.f k (⟨x0.fCode, t1329.2⟩ : l1Src) 9).bind fun t1339 => ((spec_l1Pick.f k (⟨x0.fCode, t1339.2⟩ : l1Src) ([0, 0, 0, t1339.1] : List Int)).bind fun t1350 => some ((⟨a1193, wrap64 (1 + t1329.1), t1350.1⟩ : Rule), t1350.2))))))))
theorem spec_l2Draw.calls {k : Nat} {x0 : l1Src} {b0 : Nat} {p0_0 : Value} {w wo : World} {X : List Nat} (hwo : Olds wo w X) (hX : Hold w [box b0 150 [p0_0, .int .i64 x0.fAt]] X) (hXn : X.Nodup) (hXl : ∀ b ∈ X, b < w.heap.size) (hp0_0 : RdS kU8 wo p0_0 x0.fCode) {r : Rule × Int} (H : spec_l2Draw.f k x0 = some r) :
    Calls Try.prog 105 ([.pointer (some ⟨b0, 0, none⟩)] : List Value).toArray w (fun e w_ => ∃ v, e = .returned v ∧ ∃ u0 : Value, v = (.agg #[u0, .int .i64 r.1.fNeed, .int .i64 r.1.fAfter]) ∧ Mem w X w_ [own kInt 2 u0 r.1.fKeys, box b0 150 [p0_0, .int .i64 r.2]]) := by
  have HM := Mem.startX hX hXn hXl
  refine calls_run (N := 47) Try.func105 rfl rfl rfl rfl ?_
  unfold spec_l2Draw.f at H
  refine run_seq ?_
  refine run_region rfl ?_
  refine od rfl rfl rfl rfl (does_alloc (cs := [.slice none 0 0, .int .i64 0, .int .i64 0]) rfl tz67 rfl HM) ?_
  rintro _ w1111 ⟨b1108, rfl, HM⟩
  refine ops_nil (at_then (run_seq ?_))
  obtain ⟨t1112, h1113, H⟩ := bind_some H
  refine run_region rfl ?_
  refine ox rfl rfl rfl rfl (ex_move rfl rfl) ?_
  replace HM := HM.front 1 rfl rfl
  obtain ⟨F1114, hF1115, hFn1116, hFl1117, HMh1118, hcl1119⟩ := HM.hide (Ms := [box b0 150 [p0_0, .int .i64 x0.fAt]])
  refine od rfl rfl rfl rfl (does_callk rfl callok52 rfl (spec_l1Next.calls (x0 := x0) (x1 := 3) (hide_olds _ _) hF1115 hFn1116 hFl1117 (HMh1118.rdo hwo hp0_0) h1113)) ?_
  rintro _ w1126 ⟨rfl, hn⟩
  replace HM : Mem w X w1126 [box b0 150 [p0_0, .int .i64 t1112.2], box b1108 67 [.slice none 0 0, .int .i64 0, .int .i64 0]] := hcl1119 _ _ hn
  refine ox rfl rfl rfl rfl (ex_add rfl rfl rfl) ?_
  refine od rfl rfl rfl rfl (does_lit (e := 2) (cs := [.int .i64 (wrap64 (1 + t1112.1))]) (xs := ([wrap64 (1 + t1112.1)] : List Int)) kInt rfl rfl (fun _ => by kernel_rfl) rfl rfl (fun _ _ h => by have h' : _ = [] := h; subst h'; exact (Elems.cons (d := kInt) (x := wrap64 (1 + t1112.1)) (f := []) ⟨rfl, rfl⟩ .nil)) HM.emp) ?_
  rintro v1120 w1127 HM
  refine ox rfl rfl rfl rfl (ex_build1 (fun v1120 => [(0, v1120)]) (fun v1120 => #[v1120, .int .i64 0, .int .i64 0]) rfl rfl (fun _ _ _ => by kernel_rfl) (HM.own_rd 0 rfl).isSl) ?_
  refine od rfl rfl rfl rfl (does_alloc (cs := [.slice none 0 0, .int .i64 0, .int .i64 0]) rfl tz67 rfl HM) ?_
  rintro _ w1128 ⟨b1123, rfl, HM⟩
  refine odS rfl rfl rfl (does_store (vs := [v1120, .int .i64 0, .int .i64 0]) (cs' := [v1120, .int .i64 0, .int .i64 0]) rfl rfl rfl rfl tsz67 (Ones.rd (HM.own_rd 1 rfl) (Ones.int (Ones.int Ones.nil))) rfl rfl HM) ?_
  rintro w1129 HM
  refine ops_nil (at_then ?_)
  obtain ⟨o1195, ho1196, H⟩ := bind_some H
  refine run_mid (fun ρ_ w_ => ∃ a1191 : Int, ∃ v1192 : Value, ∃ a1193 : List Int, (a1191, a1193) = o1195 ∧ ρ_ = [(0, .pointer (some ⟨b0, 0, none⟩)), (2, .pointer (some ⟨b1108, 0, none⟩)), (3, .pointer (some ⟨b1123, 0, none⟩))] ∧ Mem w X w_ [box b0 150 [p0_0, .int .i64 a1191], box b1108 67 [.slice none 0 0, .int .i64 0, .int .i64 0], box b1123 67 [v1192, .int .i64 0, .int .i64 0], own kInt 2 v1192 a1193]) ?_ ?_
  · clear H
    refine run_seq ?_
    obtain ⟨t1197, h1198, ho1196⟩ := bind_some ho1196
    refine run_region rfl ?_
    refine ox rfl rfl rfl rfl (ex_move rfl rfl) ?_
    replace HM := HM.front 2 rfl rfl
    obtain ⟨F1199, hF1200, hFn1201, hFl1202, HMh1203, hcl1204⟩ := HM.hide (Ms := [box b0 150 [p0_0, .int .i64 t1112.2]])
    refine od rfl rfl rfl rfl (does_callk rfl callok52 rfl (spec_l1Next.calls (x0 := (⟨x0.fCode, t1112.2⟩ : l1Src)) (x1 := 3) (hide_olds _ _) hF1200 hFn1201 hFl1202 (HMh1203.rdo hwo hp0_0) h1198)) ?_
    rintro _ w1205 ⟨rfl, hn⟩
    replace HM : Mem w X w1205 [box b0 150 [p0_0, .int .i64 t1197.2], box b1123 67 [v1120, .int .i64 0, .int .i64 0], own kInt 2 v1120 ([wrap64 (1 + t1112.1)] : List Int), box b1108 67 [.slice none 0 0, .int .i64 0, .int .i64 0]] := hcl1204 _ _ hn
    refine ox rfl rfl rfl rfl (ex_assign rfl rfl) ?_
    refine ops_nil (at_then ?_)
    refine run_block ?_
    replace HM := HM.front 2 rfl rfl
    replace HM := HM.front 2 rfl rfl
    replace HM := HM.front 3 rfl rfl
    replace HM := HM.front 3 rfl rfl
    refine run_loop (fun k_ ρ_ w_ => ∃ a1222 : Int, ∃ v1223 : Value, ∃ a1224 : List Int, ∃ a1226 : Int, spec_l2Draw.l0 x0 k_ a1222 a1224 a1226 = some o1195 ∧ ρ_ = [(0, .pointer (some ⟨b0, 0, none⟩)), (2, .pointer (some ⟨b1108, 0, none⟩)), (3, .pointer (some ⟨b1123, 0, none⟩)), (4, .int .i64 a1226)] ∧ Mem w X w_ [box b0 150 [p0_0, .int .i64 a1222], box b1108 67 [.slice none 0 0, .int .i64 0, .int .i64 0], box b1123 67 [v1223, .int .i64 0, .int .i64 0], own kInt 2 v1223 a1224]) k (ρ1 := [(0, .pointer (some ⟨b0, 0, none⟩)), (2, .pointer (some ⟨b1108, 0, none⟩)), (3, .pointer (some ⟨b1123, 0, none⟩)), (4, .int .i64 t1197.1)]) ⟨_, _, _, _, ho1196, rfl, HM⟩ (Sub.cons rfl (Sub.cons rfl (Sub.cons rfl (Sub.cons rfl Sub.nil)))) ?_
    clear HM ho1196
    rintro k1243 _ w1244 ⟨a1222, v1223, a1224, a1226, ho1196, rfl, HM⟩
    obtain _ | k1243 := k1243
    · exact nomatch ((spec_l2Draw.l0_z x0 a1222 a1224 a1226).symm.trans ho1196)
    replace ho1196 := (spec_l2Draw.l0_s x0 k1243 a1222 a1224 a1226).symm.trans ho1196
    refine run_seq ?_
    refine run_seq ?_
    refine run_region rfl ?_
    refine ox rfl rfl rfl rfl (ex_move rfl rfl) ?_
    refine ox rfl rfl rfl rfl (ex_gtr rfl rfl rfl) ?_
    refine ops_nil (at_then ?_)
    refine run_cond (b := (decide (0 < a1226))) rfl (fun hb1245 => ?_) (fun hb1245 => ?_)
    · replace ho1196 := cond_t hb1245 ho1196
      refine run_skip ?_
      refine at_then ?_
      refine run_seq ?_
      refine run_block ?_
      obtain ⟨e1246, ho1196⟩ := chk_some ho1196
      obtain ⟨t1247, h1248, ho1196⟩ := bind_some ho1196
      obtain ⟨e1258, ho1196⟩ := chk_some ho1196
      refine run_meet (fun ρ_ w_ => ∃ v1259 : Value, ρ_ = [(0, .pointer (some ⟨b0, 0, none⟩)), (2, .pointer (some ⟨b1108, 0, none⟩)), (3, .pointer (some ⟨b1123, 0, none⟩)), (4, .int .i64 a1226)] ∧ Mem w X w_ [box b0 150 [p0_0, .int .i64 t1247.2], box b1108 67 [.slice none 0 0, .int .i64 0, .int .i64 0], box b1123 67 [v1259, .int .i64 0, .int .i64 0], own kInt 2 v1259 (a1224 ++ ([wrap64 ((wrap64 ((gt a1224 (wrap64 ((a1224.length : Int) - 1))) + 1)) + t1247.1)] : List Int))]) ?_ ?_
      · skip
        replace HM := HM.front 3 rfl rfl
        replace HM := HM.front 3 rfl rfl
        replace HM := HM.front 2 rfl rfl
        refine run_draw (fun w_ => Mem w X w_ [box b1108 67 [.slice none 0 0, .int .i64 0, .int .i64 0]]) mixed rfl (l := #[false, false, false, false, false, false, false, false, false, false, false, false, false, false, false, false, false, false]) rfl ?_
        replace HM := HM.grow (fr_drew _)
        have hS := Mem.suf (M := [box b0 150 [p0_0, .int .i64 a1222], box b1123 67 [v1223, .int .i64 0, .int .i64 0], own kInt 2 v1223 a1224]) HM
        refine drw_cut1 (l' := (bs 18 32767)) (f' := 3) (fun (v1255 : Value) => [(0, .pointer (some ⟨b0, 0, none⟩)), (2, .pointer (some ⟨b1108, 0, none⟩)), (3, .pointer (some ⟨b1123, 0, none⟩)), (4, .int .i64 a1226), (17, v1223), (30, v1255)]) (fun (v1255 : Value) => fun w_ => Mem w X w_ [own kInt 2 v1255 ([wrap64 ((wrap64 ((gt a1224 (wrap64 ((a1224.length : Int) - 1))) + 1)) + t1247.1)] : List Int), box b0 150 [p0_0, .int .i64 t1247.2], box b1123 67 [v1223, .int .i64 0, .int .i64 0], own kInt 2 v1223 a1224, box b1108 67 [.slice none 0 0, .int .i64 0, .int .i64 0]]) ?_ (fun K1275 => ?_)
        · rintro v1255 w1276 HM
          replace HM : Mem w X w1276 [own kInt 2 v1255 ([wrap64 ((wrap64 ((gt a1224 (wrap64 ((a1224.length : Int) - 1))) + 1)) + t1247.1)] : List Int), box b0 150 [p0_0, .int .i64 t1247.2], box b1123 67 [v1223, .int .i64 0, .int .i64 0], own kInt 2 v1223 a1224, box b1108 67 [.slice none 0 0, .int .i64 0, .int .i64 0]] := HM
          have hS := Mem.suf (M := [own kInt 2 v1255 ([wrap64 ((wrap64 ((gt a1224 (wrap64 ((a1224.length : Int) - 1))) + 1)) + t1247.1)] : List Int), box b0 150 [p0_0, .int .i64 t1247.2], box b1123 67 [v1223, .int .i64 0, .int .i64 0], own kInt 2 v1223 a1224]) HM
          replace HM := HM.front 3 rfl rfl
          refine drw_any [15] (by kernel_rfl) rfl (.cons ?_ .nil)
          refine br_does (l' := (bs 18 65535)) rfl (guard_none rfl) rfl rfl (by kernel_rfl) (does_appendR kInt flat_plain rfl rfl rfl Try.underlying39 tsz2 rfl tby2 tz2 rfl rfl (leB_le e1258) (HM.own_rd 1 rfl) HM) ?_
          rintro v1259 w1277 HM
          have hS := Mem.suf (M := [own kInt 2 v1259 (a1224 ++ ([wrap64 ((wrap64 ((gt a1224 (wrap64 ((a1224.length : Int) - 1))) + 1)) + t1247.1)] : List Int)), own kInt 2 v1255 ([wrap64 ((wrap64 ((gt a1224 (wrap64 ((a1224.length : Int) - 1))) + 1)) + t1247.1)] : List Int), box b0 150 [p0_0, .int .i64 t1247.2], box b1123 67 [v1223, .int .i64 0, .int .i64 0]]) HM
          refine ⟨hS, ?_⟩
          refine dt 16 (bs 18 131071) rfl rfl rfl rfl (by kernel_rfl) (ex_fieldAddr (off' := 0) rfl rfl Try.underlying67 rfl tsz39 rfl) hS ?_
          replace HM := HM.front 3 rfl rfl
          refine drw_any [17] (by kernel_rfl) rfl (.cons ?_ .nil)
          refine br_doesS (l' := (bs 18 262143)) rfl (guard_none rfl) rfl (by kernel_rfl) (does_store (vs := [v1259]) (cs' := [v1259, .int .i64 0, .int .i64 0]) rfl rfl rfl (rd_cells (HM.own_rd 1 rfl)) tsz39 (Ones.rd (HM.own_rd 1 rfl) Ones.nil) rfl rfl HM) ?_
          rintro w1278 HM
          have hS := Mem.suf (M := [box b1123 67 [v1259, .int .i64 0, .int .i64 0], own kInt 2 v1259 (a1224 ++ ([wrap64 ((wrap64 ((gt a1224 (wrap64 ((a1224.length : Int) - 1))) + 1)) + t1247.1)] : List Int)), own kInt 2 v1255 ([wrap64 ((wrap64 ((gt a1224 (wrap64 ((a1224.length : Int) - 1))) + 1)) + t1247.1)] : List Int), box b0 150 [p0_0, .int .i64 t1247.2]]) HM
          refine ⟨hS, ?_⟩
          refine drw_done (by kernel_rfl) ?_
          replace HM := (HM.front 2 rfl rfl).drop
          replace HM := HM.front 1 rfl rfl
          replace HM := HM.front 1 rfl rfl
          replace HM := HM.front 3 rfl rfl
          replace HM := HM.front 3 rfl rfl
          exact at_meet [(0, .pointer (some ⟨b0, 0, none⟩)), (2, .pointer (some ⟨b1108, 0, none⟩)), (3, .pointer (some ⟨b1123, 0, none⟩)), (4, .int .i64 a1226)] ⟨_, rfl, HM⟩ (Sub.cons rfl (Sub.cons rfl (Sub.cons rfl (Sub.cons rfl Sub.nil))))
        refine drw_cut0 (l' := (bs 18 16383)) (f' := 4) ([(0, .pointer (some ⟨b0, 0, none⟩)), (2, .pointer (some ⟨b1108, 0, none⟩)), (3, .pointer (some ⟨b1123, 0, none⟩)), (4, .int .i64 a1226), (17, v1223), (29, .int .i64 (wrap64 ((wrap64 ((gt a1224 (wrap64 ((a1224.length : Int) - 1))) + 1)) + t1247.1)))]) (fun w_ => Mem w X w_ [box b0 150 [p0_0, .int .i64 t1247.2], box b1123 67 [v1223, .int .i64 0, .int .i64 0], own kInt 2 v1223 a1224, box b1108 67 [.slice none 0 0, .int .i64 0, .int .i64 0]]) ?_ (fun K1279 => ?_)
        · rintro w1280 HM
          replace HM : Mem w X w1280 [box b0 150 [p0_0, .int .i64 t1247.2], box b1123 67 [v1223, .int .i64 0, .int .i64 0], own kInt 2 v1223 a1224, box b1108 67 [.slice none 0 0, .int .i64 0, .int .i64 0]] := HM
          have hS := Mem.suf (M := [box b0 150 [p0_0, .int .i64 t1247.2], box b1123 67 [v1223, .int .i64 0, .int .i64 0], own kInt 2 v1223 a1224]) HM
          refine drw_any [14] (by kernel_rfl) rfl (.cons ?_ .nil)
          refine br_does (l' := (bs 18 32767)) rfl (guard_none rfl) rfl rfl (by kernel_rfl) (does_lit (e := 2) (cs := [.int .i64 (wrap64 ((wrap64 ((gt a1224 (wrap64 ((a1224.length : Int) - 1))) + 1)) + t1247.1))]) (xs := ([wrap64 ((wrap64 ((gt a1224 (wrap64 ((a1224.length : Int) - 1))) + 1)) + t1247.1)] : List Int)) kInt rfl rfl (fun _ => by kernel_rfl) rfl rfl (fun _ _ h => by have h' : _ = [] := h; subst h'; exact (Elems.cons (d := kInt) (x := wrap64 ((wrap64 ((gt a1224 (wrap64 ((a1224.length : Int) - 1))) + 1)) + t1247.1)) (f := []) ⟨rfl, rfl⟩ .nil)) HM.emp) ?_
          rintro v1255 w1281 HM
          have hS := Mem.suf (M := [own kInt 2 v1255 ([wrap64 ((wrap64 ((gt a1224 (wrap64 ((a1224.length : Int) - 1))) + 1)) + t1247.1)] : List Int), box b0 150 [p0_0, .int .i64 t1247.2], box b1123 67 [v1223, .int .i64 0, .int .i64 0], own kInt 2 v1223 a1224]) HM
          refine ⟨hS, ?_⟩
          exact drw_sub (K1275 v1255 _ HM) (Sub.cons rfl (Sub.cons rfl (Sub.cons rfl (Sub.cons rfl (Sub.cons rfl (Sub.cons rfl Sub.nil))))))
        refine drw_cut0 (l' := (bs 18 8191)) (f' := 5) ([(0, .pointer (some ⟨b0, 0, none⟩)), (2, .pointer (some ⟨b1108, 0, none⟩)), (3, .pointer (some ⟨b1123, 0, none⟩)), (4, .int .i64 a1226), (17, v1223), (26, .int .i64 (wrap64 ((gt a1224 (wrap64 ((a1224.length : Int) - 1))) + 1))), (28, .int .i64 t1247.1)]) (fun w_ => Mem w X w_ [box b0 150 [p0_0, .int .i64 t1247.2], box b1123 67 [v1223, .int .i64 0, .int .i64 0], own kInt 2 v1223 a1224, box b1108 67 [.slice none 0 0, .int .i64 0, .int .i64 0]]) ?_ (fun K1282 => ?_)
        · rintro w1283 HM
          replace HM : Mem w X w1283 [box b0 150 [p0_0, .int .i64 t1247.2], box b1123 67 [v1223, .int .i64 0, .int .i64 0], own kInt 2 v1223 a1224, box b1108 67 [.slice none 0 0, .int .i64 0, .int .i64 0]] := HM
          have hS := Mem.suf (M := [box b0 150 [p0_0, .int .i64 t1247.2], box b1123 67 [v1223, .int .i64 0, .int .i64 0], own kInt 2 v1223 a1224]) HM
          refine dt 13 (bs 18 16383) rfl rfl rfl rfl (by kernel_rfl) (ex_add rfl rfl rfl) hS ?_
          exact drw_sub (K1279 _ HM) (Sub.cons rfl (Sub.cons rfl (Sub.cons rfl (Sub.cons rfl (Sub.cons rfl (Sub.cons rfl Sub.nil))))))
        refine drw_cut0 (l' := (bs 18 4095)) (f' := 6) ([(0, .pointer (some ⟨b0, 0, none⟩)), (2, .pointer (some ⟨b1108, 0, none⟩)), (3, .pointer (some ⟨b1123, 0, none⟩)), (4, .int .i64 a1226), (27, .pointer (some ⟨b0, 0, none⟩)), (17, v1223), (26, .int .i64 (wrap64 ((gt a1224 (wrap64 ((a1224.length : Int) - 1))) + 1)))]) (fun w_ => Mem w X w_ [box b0 150 [p0_0, .int .i64 a1222], box b1123 67 [v1223, .int .i64 0, .int .i64 0], own kInt 2 v1223 a1224, box b1108 67 [.slice none 0 0, .int .i64 0, .int .i64 0]]) ?_ (fun K1284 => ?_)
        · rintro w1285 HM
          replace HM : Mem w X w1285 [box b0 150 [p0_0, .int .i64 a1222], box b1123 67 [v1223, .int .i64 0, .int .i64 0], own kInt 2 v1223 a1224, box b1108 67 [.slice none 0 0, .int .i64 0, .int .i64 0]] := HM
          have hS := Mem.suf (M := [box b0 150 [p0_0, .int .i64 a1222], box b1123 67 [v1223, .int .i64 0, .int .i64 0], own kInt 2 v1223 a1224]) HM
          obtain ⟨F1249, hF1250, hFn1251, hFl1252, HMh1253, hcl1254⟩ := HM.hide (Ms := [box b0 150 [p0_0, .int .i64 a1222]])
          refine drw_any [12] (by kernel_rfl) rfl (.cons ?_ .nil)
          refine br_does (l' := (bs 18 8191)) rfl (guard_none rfl) rfl rfl (by kernel_rfl) (does_callk rfl callok52 rfl (spec_l1Next.calls (x0 := (⟨x0.fCode, a1222⟩ : l1Src)) (x1 := 2) (hide_olds _ _) hF1250 hFn1251 hFl1252 (HMh1253.rdo hwo hp0_0) h1248)) ?_
          rintro _ w1286 ⟨rfl, hn⟩
          replace HM : Mem w X w1286 [box b0 150 [p0_0, .int .i64 t1247.2], box b1123 67 [v1223, .int .i64 0, .int .i64 0], own kInt 2 v1223 a1224, box b1108 67 [.slice none 0 0, .int .i64 0, .int .i64 0]] := hcl1254 _ _ hn
          have hS := Mem.suf (M := [box b0 150 [p0_0, .int .i64 t1247.2], box b1123 67 [v1223, .int .i64 0, .int .i64 0], own kInt 2 v1223 a1224]) HM
          refine ⟨hS, ?_⟩
          exact drw_sub (K1282 _ HM) (Sub.cons rfl (Sub.cons rfl (Sub.cons rfl (Sub.cons rfl (Sub.cons rfl (Sub.cons rfl (Sub.cons rfl Sub.nil)))))))
        refine drw_cut0 (l' := (bs 18 8189)) (f' := 6) ([(0, .pointer (some ⟨b0, 0, none⟩)), (2, .pointer (some ⟨b1108, 0, none⟩)), (3, .pointer (some ⟨b1123, 0, none⟩)), (4, .int .i64 a1226), (16, .pointer (some ⟨b1123, 0, none⟩)), (26, .int .i64 (wrap64 ((gt a1224 (wrap64 ((a1224.length : Int) - 1))) + 1))), (28, .int .i64 t1247.1)]) (fun w_ => Mem w X w_ [box b0 150 [p0_0, .int .i64 t1247.2], box b1123 67 [v1223, .int .i64 0, .int .i64 0], own kInt 2 v1223 a1224, box b1108 67 [.slice none 0 0, .int .i64 0, .int .i64 0]]) ?_ (fun K1287 => ?_)
        · rintro w1288 HM
          replace HM : Mem w X w1288 [box b0 150 [p0_0, .int .i64 t1247.2], box b1123 67 [v1223, .int .i64 0, .int .i64 0], own kInt 2 v1223 a1224, box b1108 67 [.slice none 0 0, .int .i64 0, .int .i64 0]] := HM
          have hS := Mem.suf (M := [box b0 150 [p0_0, .int .i64 t1247.2], box b1123 67 [v1223, .int .i64 0, .int .i64 0], own kInt 2 v1223 a1224]) HM
          refine dt 13 (bs 18 16381) rfl rfl rfl rfl (by kernel_rfl) (ex_add rfl rfl rfl) hS ?_
          refine drw_any [1, 14] (by kernel_rfl) rfl (.cons ?_ (.cons ?_ .nil))
          · skip
            refine br_does (l' := (bs 18 16383)) rfl (guard_none rfl) rfl rfl (by kernel_rfl) (does_ex' (ex_load1 rfl rfl Try.underlying39 rfl ((HM.box_at 1 rfl) 0 _ rfl))) ?_
            rintro _ _ ⟨rfl, rfl⟩
            refine ⟨hS, ?_⟩
            exact drw_sub (K1279 _ HM) (Sub.cons rfl (Sub.cons rfl (Sub.cons rfl (Sub.cons rfl (Sub.cons rfl (Sub.cons rfl Sub.nil))))))
          · skip
            refine br_does (l' := (bs 18 32765)) rfl (guard_none rfl) rfl rfl (by kernel_rfl) (does_lit (e := 2) (cs := [.int .i64 (wrap64 ((wrap64 ((gt a1224 (wrap64 ((a1224.length : Int) - 1))) + 1)) + t1247.1))]) (xs := ([wrap64 ((wrap64 ((gt a1224 (wrap64 ((a1224.length : Int) - 1))) + 1)) + t1247.1)] : List Int)) kInt rfl rfl (fun _ => by kernel_rfl) rfl rfl (fun _ _ h => by have h' : _ = [] := h; subst h'; exact (Elems.cons (d := kInt) (x := wrap64 ((wrap64 ((gt a1224 (wrap64 ((a1224.length : Int) - 1))) + 1)) + t1247.1)) (f := []) ⟨rfl, rfl⟩ .nil)) HM.emp) ?_
            rintro v1255 w1289 HM
            have hS := Mem.suf (M := [own kInt 2 v1255 ([wrap64 ((wrap64 ((gt a1224 (wrap64 ((a1224.length : Int) - 1))) + 1)) + t1247.1)] : List Int), box b0 150 [p0_0, .int .i64 t1247.2], box b1123 67 [v1223, .int .i64 0, .int .i64 0], own kInt 2 v1223 a1224]) HM
            refine ⟨hS, ?_⟩
            refine drw_any [1] (by kernel_rfl) rfl (.cons ?_ .nil)
            refine br_does (l' := (bs 18 32767)) rfl (guard_none rfl) rfl rfl (by kernel_rfl) (does_ex' (ex_load1 rfl rfl Try.underlying39 rfl ((HM.box_at 2 rfl) 0 _ rfl))) ?_
            rintro _ _ ⟨rfl, rfl⟩
            refine ⟨hS, ?_⟩
            exact drw_sub (K1275 v1255 _ HM) (Sub.cons rfl (Sub.cons rfl (Sub.cons rfl (Sub.cons rfl (Sub.cons rfl (Sub.cons rfl Sub.nil))))))
        refine drw_cut0 (l' := (bs 18 6655)) (f' := 7) ([(0, .pointer (some ⟨b0, 0, none⟩)), (2, .pointer (some ⟨b1108, 0, none⟩)), (3, .pointer (some ⟨b1123, 0, none⟩)), (4, .int .i64 a1226), (17, v1223), (24, .pointer (some ⟨sb v1223, so v1223 + (wrap64 ((a1224.length : Int) - 1)).toNat * 1, none⟩)), (28, .int .i64 t1247.1)]) (fun w_ => Mem w X w_ [box b0 150 [p0_0, .int .i64 t1247.2], box b1123 67 [v1223, .int .i64 0, .int .i64 0], own kInt 2 v1223 a1224, box b1108 67 [.slice none 0 0, .int .i64 0, .int .i64 0]]) ?_ (fun K1290 => ?_)
        · rintro w1291 HM
          replace HM : Mem w X w1291 [box b0 150 [p0_0, .int .i64 t1247.2], box b1123 67 [v1223, .int .i64 0, .int .i64 0], own kInt 2 v1223 a1224, box b1108 67 [.slice none 0 0, .int .i64 0, .int .i64 0]] := HM
          have hS := Mem.suf (M := [box b0 150 [p0_0, .int .i64 t1247.2], box b1123 67 [v1223, .int .i64 0, .int .i64 0], own kInt 2 v1223 a1224]) HM
          refine drw_any [9] (by kernel_rfl) rfl (.cons ?_ .nil)
          refine br_does (l' := (bs 18 7167)) rfl (guard_none rfl) rfl rfl (by kernel_rfl) (does_ex' (ex_load1 rfl rfl Try.underlying2 rfl ((rd_plain (HM.own_rd 2 rfl) e1246) 0 _ rfl))) ?_
          rintro _ _ ⟨rfl, rfl⟩
          refine ⟨hS, ?_⟩
          refine dt 10 (bs 18 8191) rfl rfl rfl rfl (by kernel_rfl) (ex_add rfl rfl rfl) hS ?_
          exact drw_sub (K1282 _ HM) (Sub.cons rfl (Sub.cons rfl (Sub.cons rfl (Sub.cons rfl (Sub.cons rfl (Sub.cons rfl (Sub.cons rfl Sub.nil)))))))
        refine drw_cut0 (l' := (bs 18 2559)) (f' := 8) ([(0, .pointer (some ⟨b0, 0, none⟩)), (2, .pointer (some ⟨b1108, 0, none⟩)), (3, .pointer (some ⟨b1123, 0, none⟩)), (4, .int .i64 a1226), (27, .pointer (some ⟨b0, 0, none⟩)), (17, v1223), (24, .pointer (some ⟨sb v1223, so v1223 + (wrap64 ((a1224.length : Int) - 1)).toNat * 1, none⟩))]) (fun w_ => Mem w X w_ [box b0 150 [p0_0, .int .i64 a1222], box b1123 67 [v1223, .int .i64 0, .int .i64 0], own kInt 2 v1223 a1224, box b1108 67 [.slice none 0 0, .int .i64 0, .int .i64 0]]) ?_ (fun K1292 => ?_)
        · rintro w1293 HM
          replace HM : Mem w X w1293 [box b0 150 [p0_0, .int .i64 a1222], box b1123 67 [v1223, .int .i64 0, .int .i64 0], own kInt 2 v1223 a1224, box b1108 67 [.slice none 0 0, .int .i64 0, .int .i64 0]] := HM
          have hS := Mem.suf (M := [box b0 150 [p0_0, .int .i64 a1222], box b1123 67 [v1223, .int .i64 0, .int .i64 0], own kInt 2 v1223 a1224]) HM
          refine drw_any [9, 12] (by kernel_rfl) rfl (.cons ?_ (.cons ?_ .nil))
          · skip
            refine br_does (l' := (bs 18 3071)) rfl (guard_none rfl) rfl rfl (by kernel_rfl) (does_ex' (ex_load1 rfl rfl Try.underlying2 rfl ((rd_plain (HM.own_rd 2 rfl) e1246) 0 _ rfl))) ?_
            rintro _ _ ⟨rfl, rfl⟩
            refine ⟨hS, ?_⟩
            refine dt 10 (bs 18 4095) rfl rfl rfl rfl (by kernel_rfl) (ex_add rfl rfl rfl) hS ?_
            exact drw_sub (K1284 _ HM) (Sub.cons rfl (Sub.cons rfl (Sub.cons rfl (Sub.cons rfl (Sub.cons rfl (Sub.cons rfl (Sub.cons rfl Sub.nil)))))))
          · skip
            obtain ⟨F1249, hF1250, hFn1251, hFl1252, HMh1253, hcl1254⟩ := HM.hide (Ms := [box b0 150 [p0_0, .int .i64 a1222]])
            refine br_does (l' := (bs 18 6655)) rfl (guard_none rfl) rfl rfl (by kernel_rfl) (does_callk rfl callok52 rfl (spec_l1Next.calls (x0 := (⟨x0.fCode, a1222⟩ : l1Src)) (x1 := 2) (hide_olds _ _) hF1250 hFn1251 hFl1252 (HMh1253.rdo hwo hp0_0) h1248)) ?_
            rintro _ w1294 ⟨rfl, hn⟩
            replace HM : Mem w X w1294 [box b0 150 [p0_0, .int .i64 t1247.2], box b1123 67 [v1223, .int .i64 0, .int .i64 0], own kInt 2 v1223 a1224, box b1108 67 [.slice none 0 0, .int .i64 0, .int .i64 0]] := hcl1254 _ _ hn
            have hS := Mem.suf (M := [box b0 150 [p0_0, .int .i64 t1247.2], box b1123 67 [v1223, .int .i64 0, .int .i64 0], own kInt 2 v1223 a1224]) HM
            refine ⟨hS, ?_⟩
            exact drw_sub (K1290 _ HM) (Sub.cons rfl (Sub.cons rfl (Sub.cons rfl (Sub.cons rfl (Sub.cons rfl (Sub.cons rfl (Sub.cons rfl Sub.nil)))))))
        refine drw_cut0 (l' := (bs 18 6399)) (f' := 8) ([(0, .pointer (some ⟨b0, 0, none⟩)), (2, .pointer (some ⟨b1108, 0, none⟩)), (3, .pointer (some ⟨b1123, 0, none⟩)), (4, .int .i64 a1226), (17, v1223), (19, v1223), (28, .int .i64 t1247.1), (23, .int .i64 (wrap64 ((a1224.length : Int) - 1)))]) (fun w_ => Mem w X w_ [box b0 150 [p0_0, .int .i64 t1247.2], box b1123 67 [v1223, .int .i64 0, .int .i64 0], own kInt 2 v1223 a1224, box b1108 67 [.slice none 0 0, .int .i64 0, .int .i64 0]]) ?_ (fun K1295 => ?_)
        · rintro w1296 HM
          replace HM : Mem w X w1296 [box b0 150 [p0_0, .int .i64 t1247.2], box b1123 67 [v1223, .int .i64 0, .int .i64 0], own kInt 2 v1223 a1224, box b1108 67 [.slice none 0 0, .int .i64 0, .int .i64 0]] := HM
          have hS := Mem.suf (M := [box b0 150 [p0_0, .int .i64 t1247.2], box b1123 67 [v1223, .int .i64 0, .int .i64 0], own kInt 2 v1223 a1224]) HM
          refine dt 8 (bs 18 6655) rfl rfl rfl rfl (by kernel_rfl) (ex_indexAddr (d := kInt) rfl rfl rfl Try.underlying39 tsz2 (HM.own_rd 2 rfl) (idx_lo e1246) (idx_hi e1246)) hS ?_
          exact drw_sub (K1290 _ HM) (Sub.cons rfl (Sub.cons rfl (Sub.cons rfl (Sub.cons rfl (Sub.cons rfl (Sub.cons rfl (Sub.cons rfl Sub.nil)))))))
        refine drw_cut0 (l' := (bs 18 6653)) (f' := 8) ([(0, .pointer (some ⟨b0, 0, none⟩)), (2, .pointer (some ⟨b1108, 0, none⟩)), (3, .pointer (some ⟨b1123, 0, none⟩)), (4, .int .i64 a1226), (16, .pointer (some ⟨b1123, 0, none⟩)), (24, .pointer (some ⟨sb v1223, so v1223 + (wrap64 ((a1224.length : Int) - 1)).toNat * 1, none⟩)), (28, .int .i64 t1247.1)]) (fun w_ => Mem w X w_ [box b0 150 [p0_0, .int .i64 t1247.2], box b1123 67 [v1223, .int .i64 0, .int .i64 0], own kInt 2 v1223 a1224, box b1108 67 [.slice none 0 0, .int .i64 0, .int .i64 0]]) ?_ (fun K1297 => ?_)
        · rintro w1298 HM
          replace HM : Mem w X w1298 [box b0 150 [p0_0, .int .i64 t1247.2], box b1123 67 [v1223, .int .i64 0, .int .i64 0], own kInt 2 v1223 a1224, box b1108 67 [.slice none 0 0, .int .i64 0, .int .i64 0]] := HM
          have hS := Mem.suf (M := [box b0 150 [p0_0, .int .i64 t1247.2], box b1123 67 [v1223, .int .i64 0, .int .i64 0], own kInt 2 v1223 a1224]) HM
          refine drw_any [1, 9] (by kernel_rfl) rfl (.cons ?_ (.cons ?_ .nil))
          · skip
            refine br_does (l' := (bs 18 6655)) rfl (guard_none rfl) rfl rfl (by kernel_rfl) (does_ex' (ex_load1 rfl rfl Try.underlying39 rfl ((HM.box_at 1 rfl) 0 _ rfl))) ?_
            rintro _ _ ⟨rfl, rfl⟩
            refine ⟨hS, ?_⟩
            exact drw_sub (K1290 _ HM) (Sub.cons rfl (Sub.cons rfl (Sub.cons rfl (Sub.cons rfl (Sub.cons rfl (Sub.cons rfl (Sub.cons rfl Sub.nil)))))))
          · skip
            refine br_does (l' := (bs 18 7165)) rfl (guard_none rfl) rfl rfl (by kernel_rfl) (does_ex' (ex_load1 rfl rfl Try.underlying2 rfl ((rd_plain (HM.own_rd 2 rfl) e1246) 0 _ rfl))) ?_
            rintro _ _ ⟨rfl, rfl⟩
            refine ⟨hS, ?_⟩
            refine dt 10 (bs 18 8189) rfl rfl rfl rfl (by kernel_rfl) (ex_add rfl rfl rfl) hS ?_
            exact drw_sub (K1287 _ HM) (Sub.cons rfl (Sub.cons rfl (Sub.cons rfl (Sub.cons rfl (Sub.cons rfl (Sub.cons rfl (Sub.cons rfl Sub.nil)))))))
        refine drw_cut0 (l' := (bs 18 2303)) (f' := 9) ([(0, .pointer (some ⟨b0, 0, none⟩)), (2, .pointer (some ⟨b1108, 0, none⟩)), (3, .pointer (some ⟨b1123, 0, none⟩)), (4, .int .i64 a1226), (27, .pointer (some ⟨b0, 0, none⟩)), (17, v1223), (19, v1223), (23, .int .i64 (wrap64 ((a1224.length : Int) - 1)))]) (fun w_ => Mem w X w_ [box b0 150 [p0_0, .int .i64 a1222], box b1123 67 [v1223, .int .i64 0, .int .i64 0], own kInt 2 v1223 a1224, box b1108 67 [.slice none 0 0, .int .i64 0, .int .i64 0]]) ?_ (fun K1299 => ?_)
        · rintro w1300 HM
          replace HM : Mem w X w1300 [box b0 150 [p0_0, .int .i64 a1222], box b1123 67 [v1223, .int .i64 0, .int .i64 0], own kInt 2 v1223 a1224, box b1108 67 [.slice none 0 0, .int .i64 0, .int .i64 0]] := HM
          have hS := Mem.suf (M := [box b0 150 [p0_0, .int .i64 a1222], box b1123 67 [v1223, .int .i64 0, .int .i64 0], own kInt 2 v1223 a1224]) HM
          refine dt 8 (bs 18 2559) rfl rfl rfl rfl (by kernel_rfl) (ex_indexAddr (d := kInt) rfl rfl rfl Try.underlying39 tsz2 (HM.own_rd 2 rfl) (idx_lo e1246) (idx_hi e1246)) hS ?_
          exact drw_sub (K1292 _ HM) (Sub.cons rfl (Sub.cons rfl (Sub.cons rfl (Sub.cons rfl (Sub.cons rfl (Sub.cons rfl (Sub.cons rfl Sub.nil)))))))
        refine drw_cut0 (l' := (bs 18 6391)) (f' := 9) ([(0, .pointer (some ⟨b0, 0, none⟩)), (2, .pointer (some ⟨b1108, 0, none⟩)), (3, .pointer (some ⟨b1123, 0, none⟩)), (4, .int .i64 a1226), (18, .pointer (some ⟨b1123, 0, none⟩)), (17, v1223), (23, .int .i64 (wrap64 ((a1224.length : Int) - 1))), (28, .int .i64 t1247.1)]) (fun w_ => Mem w X w_ [box b0 150 [p0_0, .int .i64 t1247.2], box b1123 67 [v1223, .int .i64 0, .int .i64 0], own kInt 2 v1223 a1224, box b1108 67 [.slice none 0 0, .int .i64 0, .int .i64 0]]) ?_ (fun K1301 => ?_)
        · rintro w1302 HM
          replace HM : Mem w X w1302 [box b0 150 [p0_0, .int .i64 t1247.2], box b1123 67 [v1223, .int .i64 0, .int .i64 0], own kInt 2 v1223 a1224, box b1108 67 [.slice none 0 0, .int .i64 0, .int .i64 0]] := HM
          have hS := Mem.suf (M := [box b0 150 [p0_0, .int .i64 t1247.2], box b1123 67 [v1223, .int .i64 0, .int .i64 0], own kInt 2 v1223 a1224]) HM
          refine drw_any [3] (by kernel_rfl) rfl (.cons ?_ .nil)
          refine br_does (l' := (bs 18 6399)) rfl (guard_none rfl) rfl rfl (by kernel_rfl) (does_ex' (ex_load1 rfl rfl Try.underlying39 rfl ((HM.box_at 1 rfl) 0 _ rfl))) ?_
          rintro _ _ ⟨rfl, rfl⟩
          refine ⟨hS, ?_⟩
          exact drw_sub (K1295 _ HM) (Sub.cons rfl (Sub.cons rfl (Sub.cons rfl (Sub.cons rfl (Sub.cons rfl (Sub.cons rfl (Sub.cons rfl (Sub.cons rfl Sub.nil))))))))
        refine drw_cut0 (l' := (bs 18 6397)) (f' := 9) ([(0, .pointer (some ⟨b0, 0, none⟩)), (2, .pointer (some ⟨b1108, 0, none⟩)), (3, .pointer (some ⟨b1123, 0, none⟩)), (4, .int .i64 a1226), (16, .pointer (some ⟨b1123, 0, none⟩)), (19, v1223), (28, .int .i64 t1247.1), (23, .int .i64 (wrap64 ((a1224.length : Int) - 1)))]) (fun w_ => Mem w X w_ [box b0 150 [p0_0, .int .i64 t1247.2], box b1123 67 [v1223, .int .i64 0, .int .i64 0], own kInt 2 v1223 a1224, box b1108 67 [.slice none 0 0, .int .i64 0, .int .i64 0]]) ?_ (fun K1303 => ?_)
        · rintro w1304 HM
          replace HM : Mem w X w1304 [box b0 150 [p0_0, .int .i64 t1247.2], box b1123 67 [v1223, .int .i64 0, .int .i64 0], own kInt 2 v1223 a1224, box b1108 67 [.slice none 0 0, .int .i64 0, .int .i64 0]] := HM
          have hS := Mem.suf (M := [box b0 150 [p0_0, .int .i64 t1247.2], box b1123 67 [v1223, .int .i64 0, .int .i64 0], own kInt 2 v1223 a1224]) HM
          refine dt 8 (bs 18 6653) rfl rfl rfl rfl (by kernel_rfl) (ex_indexAddr (d := kInt) rfl rfl rfl Try.underlying39 tsz2 (HM.own_rd 2 rfl) (idx_lo e1246) (idx_hi e1246)) hS ?_
          exact drw_sub (K1297 _ HM) (Sub.cons rfl (Sub.cons rfl (Sub.cons rfl (Sub.cons rfl (Sub.cons rfl (Sub.cons rfl (Sub.cons rfl Sub.nil)))))))
        refine drw_cut0 (l' := (bs 18 2295)) (f' := 10) ([(0, .pointer (some ⟨b0, 0, none⟩)), (2, .pointer (some ⟨b1108, 0, none⟩)), (3, .pointer (some ⟨b1123, 0, none⟩)), (4, .int .i64 a1226), (18, .pointer (some ⟨b1123, 0, none⟩)), (27, .pointer (some ⟨b0, 0, none⟩)), (17, v1223), (23, .int .i64 (wrap64 ((a1224.length : Int) - 1)))]) (fun w_ => Mem w X w_ [box b0 150 [p0_0, .int .i64 a1222], box b1123 67 [v1223, .int .i64 0, .int .i64 0], own kInt 2 v1223 a1224, box b1108 67 [.slice none 0 0, .int .i64 0, .int .i64 0]]) ?_ (fun K1305 => ?_)
        · rintro w1306 HM
          replace HM : Mem w X w1306 [box b0 150 [p0_0, .int .i64 a1222], box b1123 67 [v1223, .int .i64 0, .int .i64 0], own kInt 2 v1223 a1224, box b1108 67 [.slice none 0 0, .int .i64 0, .int .i64 0]] := HM
          have hS := Mem.suf (M := [box b0 150 [p0_0, .int .i64 a1222], box b1123 67 [v1223, .int .i64 0, .int .i64 0], own kInt 2 v1223 a1224]) HM
          refine drw_any [3, 12] (by kernel_rfl) rfl (.cons ?_ (.cons ?_ .nil))
          · skip
            refine br_does (l' := (bs 18 2303)) rfl (guard_none rfl) rfl rfl (by kernel_rfl) (does_ex' (ex_load1 rfl rfl Try.underlying39 rfl ((HM.box_at 1 rfl) 0 _ rfl))) ?_
            rintro _ _ ⟨rfl, rfl⟩
            refine ⟨hS, ?_⟩
            exact drw_sub (K1299 _ HM) (Sub.cons rfl (Sub.cons rfl (Sub.cons rfl (Sub.cons rfl (Sub.cons rfl (Sub.cons rfl (Sub.cons rfl (Sub.cons rfl Sub.nil))))))))
          · skip
            obtain ⟨F1249, hF1250, hFn1251, hFl1252, HMh1253, hcl1254⟩ := HM.hide (Ms := [box b0 150 [p0_0, .int .i64 a1222]])
            refine br_does (l' := (bs 18 6391)) rfl (guard_none rfl) rfl rfl (by kernel_rfl) (does_callk rfl callok52 rfl (spec_l1Next.calls (x0 := (⟨x0.fCode, a1222⟩ : l1Src)) (x1 := 2) (hide_olds _ _) hF1250 hFn1251 hFl1252 (HMh1253.rdo hwo hp0_0) h1248)) ?_
            rintro _ w1307 ⟨rfl, hn⟩
            replace HM : Mem w X w1307 [box b0 150 [p0_0, .int .i64 t1247.2], box b1123 67 [v1223, .int .i64 0, .int .i64 0], own kInt 2 v1223 a1224, box b1108 67 [.slice none 0 0, .int .i64 0, .int .i64 0]] := hcl1254 _ _ hn
            have hS := Mem.suf (M := [box b0 150 [p0_0, .int .i64 t1247.2], box b1123 67 [v1223, .int .i64 0, .int .i64 0], own kInt 2 v1223 a1224]) HM
            refine ⟨hS, ?_⟩
            exact drw_sub (K1301 _ HM) (Sub.cons rfl (Sub.cons rfl (Sub.cons rfl (Sub.cons rfl (Sub.cons rfl (Sub.cons rfl (Sub.cons rfl (Sub.cons rfl Sub.nil))))))))
        refine drw_cut0 (l' := (bs 18 2301)) (f' := 10) ([(0, .pointer (some ⟨b0, 0, none⟩)), (2, .pointer (some ⟨b1108, 0, none⟩)), (3, .pointer (some ⟨b1123, 0, none⟩)), (4, .int .i64 a1226), (16, .pointer (some ⟨b1123, 0, none⟩)), (27, .pointer (some ⟨b0, 0, none⟩)), (19, v1223), (23, .int .i64 (wrap64 ((a1224.length : Int) - 1)))]) (fun w_ => Mem w X w_ [box b0 150 [p0_0, .int .i64 a1222], box b1123 67 [v1223, .int .i64 0, .int .i64 0], own kInt 2 v1223 a1224, box b1108 67 [.slice none 0 0, .int .i64 0, .int .i64 0]]) ?_ (fun K1308 => ?_)
        · rintro w1309 HM
          replace HM : Mem w X w1309 [box b0 150 [p0_0, .int .i64 a1222], box b1123 67 [v1223, .int .i64 0, .int .i64 0], own kInt 2 v1223 a1224, box b1108 67 [.slice none 0 0, .int .i64 0, .int .i64 0]] := HM
          have hS := Mem.suf (M := [box b0 150 [p0_0, .int .i64 a1222], box b1123 67 [v1223, .int .i64 0, .int .i64 0], own kInt 2 v1223 a1224]) HM
          refine dt 8 (bs 18 2557) rfl rfl rfl rfl (by kernel_rfl) (ex_indexAddr (d := kInt) rfl rfl rfl Try.underlying39 tsz2 (HM.own_rd 2 rfl) (idx_lo e1246) (idx_hi e1246)) hS ?_
          refine drw_any [1, 9, 12] (by kernel_rfl) rfl (.cons ?_ (.cons ?_ (.cons ?_ .nil)))
          · skip
            refine br_does (l' := (bs 18 2559)) rfl (guard_none rfl) rfl rfl (by kernel_rfl) (does_ex' (ex_load1 rfl rfl Try.underlying39 rfl ((HM.box_at 1 rfl) 0 _ rfl))) ?_
            rintro _ _ ⟨rfl, rfl⟩
            refine ⟨hS, ?_⟩
            exact drw_sub (K1292 _ HM) (Sub.cons rfl (Sub.cons rfl (Sub.cons rfl (Sub.cons rfl (Sub.cons rfl (Sub.cons rfl (Sub.cons rfl Sub.nil)))))))
          · skip
            refine br_does (l' := (bs 18 3069)) rfl (guard_none rfl) rfl rfl (by kernel_rfl) (does_ex' (ex_load1 rfl rfl Try.underlying2 rfl ((rd_plain (HM.own_rd 2 rfl) e1246) 0 _ rfl))) ?_
            rintro _ _ ⟨rfl, rfl⟩
            refine ⟨hS, ?_⟩
            refine dt 10 (bs 18 4093) rfl rfl rfl rfl (by kernel_rfl) (ex_add rfl rfl rfl) hS ?_
            refine drw_any [1, 12] (by kernel_rfl) rfl (.cons ?_ (.cons ?_ .nil))
            · skip
              refine br_does (l' := (bs 18 4095)) rfl (guard_none rfl) rfl rfl (by kernel_rfl) (does_ex' (ex_load1 rfl rfl Try.underlying39 rfl ((HM.box_at 1 rfl) 0 _ rfl))) ?_
              rintro _ _ ⟨rfl, rfl⟩
              refine ⟨hS, ?_⟩
              exact drw_sub (K1284 _ HM) (Sub.cons rfl (Sub.cons rfl (Sub.cons rfl (Sub.cons rfl (Sub.cons rfl (Sub.cons rfl (Sub.cons rfl Sub.nil)))))))
            · skip
              obtain ⟨F1249, hF1250, hFn1251, hFl1252, HMh1253, hcl1254⟩ := HM.hide (Ms := [box b0 150 [p0_0, .int .i64 a1222]])
              refine br_does (l' := (bs 18 8189)) rfl (guard_none rfl) rfl rfl (by kernel_rfl) (does_callk rfl callok52 rfl (spec_l1Next.calls (x0 := (⟨x0.fCode, a1222⟩ : l1Src)) (x1 := 2) (hide_olds _ _) hF1250 hFn1251 hFl1252 (HMh1253.rdo hwo hp0_0) h1248)) ?_
              rintro _ w1310 ⟨rfl, hn⟩
              replace HM : Mem w X w1310 [box b0 150 [p0_0, .int .i64 t1247.2], box b1123 67 [v1223, .int .i64 0, .int .i64 0], own kInt 2 v1223 a1224, box b1108 67 [.slice none 0 0, .int .i64 0, .int .i64 0]] := hcl1254 _ _ hn
              have hS := Mem.suf (M := [box b0 150 [p0_0, .int .i64 t1247.2], box b1123 67 [v1223, .int .i64 0, .int .i64 0], own kInt 2 v1223 a1224]) HM
              refine ⟨hS, ?_⟩
              exact drw_sub (K1287 _ HM) (Sub.cons rfl (Sub.cons rfl (Sub.cons rfl (Sub.cons rfl (Sub.cons rfl (Sub.cons rfl (Sub.cons rfl Sub.nil)))))))
          · skip
            obtain ⟨F1249, hF1250, hFn1251, hFl1252, HMh1253, hcl1254⟩ := HM.hide (Ms := [box b0 150 [p0_0, .int .i64 a1222]])
            refine br_does (l' := (bs 18 6653)) rfl (guard_none rfl) rfl rfl (by kernel_rfl) (does_callk rfl callok52 rfl (spec_l1Next.calls (x0 := (⟨x0.fCode, a1222⟩ : l1Src)) (x1 := 2) (hide_olds _ _) hF1250 hFn1251 hFl1252 (HMh1253.rdo hwo hp0_0) h1248)) ?_
            rintro _ w1311 ⟨rfl, hn⟩
            replace HM : Mem w X w1311 [box b0 150 [p0_0, .int .i64 t1247.2], box b1123 67 [v1223, .int .i64 0, .int .i64 0], own kInt 2 v1223 a1224, box b1108 67 [.slice none 0 0, .int .i64 0, .int .i64 0]] := hcl1254 _ _ hn
            have hS := Mem.suf (M := [box b0 150 [p0_0, .int .i64 t1247.2], box b1123 67 [v1223, .int .i64 0, .int .i64 0], own kInt 2 v1223 a1224]) HM
            refine ⟨hS, ?_⟩
            exact drw_sub (K1297 _ HM) (Sub.cons rfl (Sub.cons rfl (Sub.cons rfl (Sub.cons rfl (Sub.cons rfl (Sub.cons rfl (Sub.cons rfl Sub.nil)))))))
        refine drw_cut0 (l' := (bs 18 6389)) (f' := 10) ([(0, .pointer (some ⟨b0, 0, none⟩)), (2, .pointer (some ⟨b1108, 0, none⟩)), (3, .pointer (some ⟨b1123, 0, none⟩)), (4, .int .i64 a1226), (16, .pointer (some ⟨b1123, 0, none⟩)), (18, .pointer (some ⟨b1123, 0, none⟩)), (23, .int .i64 (wrap64 ((a1224.length : Int) - 1))), (28, .int .i64 t1247.1)]) (fun w_ => Mem w X w_ [box b0 150 [p0_0, .int .i64 t1247.2], box b1123 67 [v1223, .int .i64 0, .int .i64 0], own kInt 2 v1223 a1224, box b1108 67 [.slice none 0 0, .int .i64 0, .int .i64 0]]) ?_ (fun K1312 => ?_)
        · rintro w1313 HM
          replace HM : Mem w X w1313 [box b0 150 [p0_0, .int .i64 t1247.2], box b1123 67 [v1223, .int .i64 0, .int .i64 0], own kInt 2 v1223 a1224, box b1108 67 [.slice none 0 0, .int .i64 0, .int .i64 0]] := HM
          have hS := Mem.suf (M := [box b0 150 [p0_0, .int .i64 t1247.2], box b1123 67 [v1223, .int .i64 0, .int .i64 0], own kInt 2 v1223 a1224]) HM
          refine drw_any [1, 3] (by kernel_rfl) rfl (.cons ?_ (.cons ?_ .nil))
          · skip
            refine br_does (l' := (bs 18 6391)) rfl (guard_none rfl) rfl rfl (by kernel_rfl) (does_ex' (ex_load1 rfl rfl Try.underlying39 rfl ((HM.box_at 1 rfl) 0 _ rfl))) ?_
            rintro _ _ ⟨rfl, rfl⟩
            refine ⟨hS, ?_⟩
            exact drw_sub (K1301 _ HM) (Sub.cons rfl (Sub.cons rfl (Sub.cons rfl (Sub.cons rfl (Sub.cons rfl (Sub.cons rfl (Sub.cons rfl (Sub.cons rfl Sub.nil))))))))
          · skip
            refine br_does (l' := (bs 18 6397)) rfl (guard_none rfl) rfl rfl (by kernel_rfl) (does_ex' (ex_load1 rfl rfl Try.underlying39 rfl ((HM.box_at 1 rfl) 0 _ rfl))) ?_
            rintro _ _ ⟨rfl, rfl⟩
            refine ⟨hS, ?_⟩
            exact drw_sub (K1303 _ HM) (Sub.cons rfl (Sub.cons rfl (Sub.cons rfl (Sub.cons rfl (Sub.cons rfl (Sub.cons rfl (Sub.cons rfl (Sub.cons rfl Sub.nil))))))))
        refine drw_cut0 (l' := (bs 18 6175)) (f' := 11) ([(0, .pointer (some ⟨b0, 0, none⟩)), (2, .pointer (some ⟨b1108, 0, none⟩)), (3, .pointer (some ⟨b1123, 0, none⟩)), (4, .int .i64 a1226), (20, .pointer (some ⟨b1123, 0, none⟩)), (17, v1223), (19, v1223), (28, .int .i64 t1247.1)]) (fun w_ => Mem w X w_ [box b0 150 [p0_0, .int .i64 t1247.2], box b1123 67 [v1223, .int .i64 0, .int .i64 0], own kInt 2 v1223 a1224, box b1108 67 [.slice none 0 0, .int .i64 0, .int .i64 0]]) ?_ (fun K1314 => ?_)
        · rintro w1315 HM
          replace HM : Mem w X w1315 [box b0 150 [p0_0, .int .i64 t1247.2], box b1123 67 [v1223, .int .i64 0, .int .i64 0], own kInt 2 v1223 a1224, box b1108 67 [.slice none 0 0, .int .i64 0, .int .i64 0]] := HM
          have hS := Mem.suf (M := [box b0 150 [p0_0, .int .i64 t1247.2], box b1123 67 [v1223, .int .i64 0, .int .i64 0], own kInt 2 v1223 a1224]) HM
          refine drw_any [5] (by kernel_rfl) rfl (.cons ?_ .nil)
          refine br_does (l' := (bs 18 6207)) rfl (guard_none rfl) rfl rfl (by kernel_rfl) (does_ex' (ex_load1 rfl rfl Try.underlying39 rfl ((HM.box_at 1 rfl) 0 _ rfl))) ?_
          rintro _ _ ⟨rfl, rfl⟩
          refine ⟨hS, ?_⟩
          refine dt 6 (bs 18 6271) rfl rfl rfl rfl (by kernel_rfl) (ex_len (d := kInt) (xs := a1224) rfl rfl Try.underlying39 (HM.own_rd 2 rfl)) hS ?_
          refine dt 7 (bs 18 6399) rfl rfl rfl rfl (by kernel_rfl) (ex_sub rfl rfl rfl) hS ?_
          exact drw_sub (K1295 _ HM) (Sub.cons rfl (Sub.cons rfl (Sub.cons rfl (Sub.cons rfl (Sub.cons rfl (Sub.cons rfl (Sub.cons rfl (Sub.cons rfl Sub.nil))))))))
        refine drw_cut0 (l' := (bs 18 2079)) (f' := 12) ([(0, .pointer (some ⟨b0, 0, none⟩)), (2, .pointer (some ⟨b1108, 0, none⟩)), (3, .pointer (some ⟨b1123, 0, none⟩)), (4, .int .i64 a1226), (20, .pointer (some ⟨b1123, 0, none⟩)), (27, .pointer (some ⟨b0, 0, none⟩)), (17, v1223), (19, v1223)]) (fun w_ => Mem w X w_ [box b0 150 [p0_0, .int .i64 a1222], box b1123 67 [v1223, .int .i64 0, .int .i64 0], own kInt 2 v1223 a1224, box b1108 67 [.slice none 0 0, .int .i64 0, .int .i64 0]]) ?_ (fun K1316 => ?_)
        · rintro w1317 HM
          replace HM : Mem w X w1317 [box b0 150 [p0_0, .int .i64 a1222], box b1123 67 [v1223, .int .i64 0, .int .i64 0], own kInt 2 v1223 a1224, box b1108 67 [.slice none 0 0, .int .i64 0, .int .i64 0]] := HM
          have hS := Mem.suf (M := [box b0 150 [p0_0, .int .i64 a1222], box b1123 67 [v1223, .int .i64 0, .int .i64 0], own kInt 2 v1223 a1224]) HM
          refine drw_any [5, 12] (by kernel_rfl) rfl (.cons ?_ (.cons ?_ .nil))
          · skip
            refine br_does (l' := (bs 18 2111)) rfl (guard_none rfl) rfl rfl (by kernel_rfl) (does_ex' (ex_load1 rfl rfl Try.underlying39 rfl ((HM.box_at 1 rfl) 0 _ rfl))) ?_
            rintro _ _ ⟨rfl, rfl⟩
            refine ⟨hS, ?_⟩
            refine dt 6 (bs 18 2175) rfl rfl rfl rfl (by kernel_rfl) (ex_len (d := kInt) (xs := a1224) rfl rfl Try.underlying39 (HM.own_rd 2 rfl)) hS ?_
            refine dt 7 (bs 18 2303) rfl rfl rfl rfl (by kernel_rfl) (ex_sub rfl rfl rfl) hS ?_
            exact drw_sub (K1299 _ HM) (Sub.cons rfl (Sub.cons rfl (Sub.cons rfl (Sub.cons rfl (Sub.cons rfl (Sub.cons rfl (Sub.cons rfl (Sub.cons rfl Sub.nil))))))))
          · skip
            obtain ⟨F1249, hF1250, hFn1251, hFl1252, HMh1253, hcl1254⟩ := HM.hide (Ms := [box b0 150 [p0_0, .int .i64 a1222]])
            refine br_does (l' := (bs 18 6175)) rfl (guard_none rfl) rfl rfl (by kernel_rfl) (does_callk rfl callok52 rfl (spec_l1Next.calls (x0 := (⟨x0.fCode, a1222⟩ : l1Src)) (x1 := 2) (hide_olds _ _) hF1250 hFn1251 hFl1252 (HMh1253.rdo hwo hp0_0) h1248)) ?_
            rintro _ w1318 ⟨rfl, hn⟩
            replace HM : Mem w X w1318 [box b0 150 [p0_0, .int .i64 t1247.2], box b1123 67 [v1223, .int .i64 0, .int .i64 0], own kInt 2 v1223 a1224, box b1108 67 [.slice none 0 0, .int .i64 0, .int .i64 0]] := hcl1254 _ _ hn
            have hS := Mem.suf (M := [box b0 150 [p0_0, .int .i64 t1247.2], box b1123 67 [v1223, .int .i64 0, .int .i64 0], own kInt 2 v1223 a1224]) HM
            refine ⟨hS, ?_⟩
            exact drw_sub (K1314 _ HM) (Sub.cons rfl (Sub.cons rfl (Sub.cons rfl (Sub.cons rfl (Sub.cons rfl (Sub.cons rfl (Sub.cons rfl (Sub.cons rfl Sub.nil))))))))
        refine drw_cut0 (l' := (bs 18 6167)) (f' := 12) ([(0, .pointer (some ⟨b0, 0, none⟩)), (2, .pointer (some ⟨b1108, 0, none⟩)), (3, .pointer (some ⟨b1123, 0, none⟩)), (4, .int .i64 a1226), (18, .pointer (some ⟨b1123, 0, none⟩)), (20, .pointer (some ⟨b1123, 0, none⟩)), (17, v1223), (28, .int .i64 t1247.1)]) (fun w_ => Mem w X w_ [box b0 150 [p0_0, .int .i64 t1247.2], box b1123 67 [v1223, .int .i64 0, .int .i64 0], own kInt 2 v1223 a1224, box b1108 67 [.slice none 0 0, .int .i64 0, .int .i64 0]]) ?_ (fun K1319 => ?_)
        · rintro w1320 HM
          replace HM : Mem w X w1320 [box b0 150 [p0_0, .int .i64 t1247.2], box b1123 67 [v1223, .int .i64 0, .int .i64 0], own kInt 2 v1223 a1224, box b1108 67 [.slice none 0 0, .int .i64 0, .int .i64 0]] := HM
          have hS := Mem.suf (M := [box b0 150 [p0_0, .int .i64 t1247.2], box b1123 67 [v1223, .int .i64 0, .int .i64 0], own kInt 2 v1223 a1224]) HM
          refine drw_any [3, 5] (by kernel_rfl) rfl (.cons ?_ (.cons ?_ .nil))
          · skip
            refine br_does (l' := (bs 18 6175)) rfl (guard_none rfl) rfl rfl (by kernel_rfl) (does_ex' (ex_load1 rfl rfl Try.underlying39 rfl ((HM.box_at 1 rfl) 0 _ rfl))) ?_
            rintro _ _ ⟨rfl, rfl⟩
            refine ⟨hS, ?_⟩
            exact drw_sub (K1314 _ HM) (Sub.cons rfl (Sub.cons rfl (Sub.cons rfl (Sub.cons rfl (Sub.cons rfl (Sub.cons rfl (Sub.cons rfl (Sub.cons rfl Sub.nil))))))))
          · skip
            refine br_does (l' := (bs 18 6199)) rfl (guard_none rfl) rfl rfl (by kernel_rfl) (does_ex' (ex_load1 rfl rfl Try.underlying39 rfl ((HM.box_at 1 rfl) 0 _ rfl))) ?_
            rintro _ _ ⟨rfl, rfl⟩
            refine ⟨hS, ?_⟩
            refine dt 6 (bs 18 6263) rfl rfl rfl rfl (by kernel_rfl) (ex_len (d := kInt) (xs := a1224) rfl rfl Try.underlying39 (HM.own_rd 2 rfl)) hS ?_
            refine dt 7 (bs 18 6391) rfl rfl rfl rfl (by kernel_rfl) (ex_sub rfl rfl rfl) hS ?_
            exact drw_sub (K1301 _ HM) (Sub.cons rfl (Sub.cons rfl (Sub.cons rfl (Sub.cons rfl (Sub.cons rfl (Sub.cons rfl (Sub.cons rfl (Sub.cons rfl Sub.nil))))))))
        refine drw_cut0 (l' := (bs 18 6173)) (f' := 12) ([(0, .pointer (some ⟨b0, 0, none⟩)), (2, .pointer (some ⟨b1108, 0, none⟩)), (3, .pointer (some ⟨b1123, 0, none⟩)), (4, .int .i64 a1226), (16, .pointer (some ⟨b1123, 0, none⟩)), (20, .pointer (some ⟨b1123, 0, none⟩)), (19, v1223), (28, .int .i64 t1247.1)]) (fun w_ => Mem w X w_ [box b0 150 [p0_0, .int .i64 t1247.2], box b1123 67 [v1223, .int .i64 0, .int .i64 0], own kInt 2 v1223 a1224, box b1108 67 [.slice none 0 0, .int .i64 0, .int .i64 0]]) ?_ (fun K1321 => ?_)
        · rintro w1322 HM
          replace HM : Mem w X w1322 [box b0 150 [p0_0, .int .i64 t1247.2], box b1123 67 [v1223, .int .i64 0, .int .i64 0], own kInt 2 v1223 a1224, box b1108 67 [.slice none 0 0, .int .i64 0, .int .i64 0]] := HM
          have hS := Mem.suf (M := [box b0 150 [p0_0, .int .i64 t1247.2], box b1123 67 [v1223, .int .i64 0, .int .i64 0], own kInt 2 v1223 a1224]) HM
          refine drw_any [1, 5] (by kernel_rfl) rfl (.cons ?_ (.cons ?_ .nil))
          · skip
            refine br_does (l' := (bs 18 6175)) rfl (guard_none rfl) rfl rfl (by kernel_rfl) (does_ex' (ex_load1 rfl rfl Try.underlying39 rfl ((HM.box_at 1 rfl) 0 _ rfl))) ?_
            rintro _ _ ⟨rfl, rfl⟩
            refine ⟨hS, ?_⟩
            exact drw_sub (K1314 _ HM) (Sub.cons rfl (Sub.cons rfl (Sub.cons rfl (Sub.cons rfl (Sub.cons rfl (Sub.cons rfl (Sub.cons rfl (Sub.cons rfl Sub.nil))))))))
          · skip
            refine br_does (l' := (bs 18 6205)) rfl (guard_none rfl) rfl rfl (by kernel_rfl) (does_ex' (ex_load1 rfl rfl Try.underlying39 rfl ((HM.box_at 1 rfl) 0 _ rfl))) ?_
            rintro _ _ ⟨rfl, rfl⟩
            refine ⟨hS, ?_⟩
            refine dt 6 (bs 18 6269) rfl rfl rfl rfl (by kernel_rfl) (ex_len (d := kInt) (xs := a1224) rfl rfl Try.underlying39 (HM.own_rd 2 rfl)) hS ?_
            refine dt 7 (bs 18 6397) rfl rfl rfl rfl (by kernel_rfl) (ex_sub rfl rfl rfl) hS ?_
            exact drw_sub (K1303 _ HM) (Sub.cons rfl (Sub.cons rfl (Sub.cons rfl (Sub.cons rfl (Sub.cons rfl (Sub.cons rfl (Sub.cons rfl (Sub.cons rfl Sub.nil))))))))
        refine dt 0 (bs 18 1) rfl rfl rfl rfl (by kernel_rfl) (ex_fieldAddr (off' := 0) rfl rfl Try.underlying67 rfl tsz39 rfl) hS ?_
        refine dt 2 (bs 18 5) rfl rfl rfl rfl (by kernel_rfl) (ex_fieldAddr (off' := 0) rfl rfl Try.underlying67 rfl tsz39 rfl) hS ?_
        refine dt 4 (bs 18 21) rfl rfl rfl rfl (by kernel_rfl) (ex_fieldAddr (off' := 0) rfl rfl Try.underlying67 rfl tsz39 rfl) hS ?_
        refine dt 11 (bs 18 2069) rfl rfl rfl rfl (by kernel_rfl) (ex_move rfl rfl) hS ?_
        refine drw_any [1, 3, 5, 12] (by kernel_rfl) rfl (.cons ?_ (.cons ?_ (.cons ?_ (.cons ?_ .nil))))
        · skip
          refine br_does (l' := (bs 18 2071)) rfl (guard_none rfl) rfl rfl (by kernel_rfl) (does_ex' (ex_load1 rfl rfl Try.underlying39 rfl ((HM.box_at 1 rfl) 0 _ rfl))) ?_
          rintro _ _ ⟨rfl, rfl⟩
          refine ⟨hS, ?_⟩
          refine drw_any [3, 5, 12] (by kernel_rfl) rfl (.cons ?_ (.cons ?_ (.cons ?_ .nil)))
          · skip
            refine br_does (l' := (bs 18 2079)) rfl (guard_none rfl) rfl rfl (by kernel_rfl) (does_ex' (ex_load1 rfl rfl Try.underlying39 rfl ((HM.box_at 1 rfl) 0 _ rfl))) ?_
            rintro _ _ ⟨rfl, rfl⟩
            refine ⟨hS, ?_⟩
            exact drw_sub (K1316 _ HM) (Sub.cons rfl (Sub.cons rfl (Sub.cons rfl (Sub.cons rfl (Sub.cons rfl (Sub.cons rfl (Sub.cons rfl (Sub.cons rfl Sub.nil))))))))
          · skip
            refine br_does (l' := (bs 18 2103)) rfl (guard_none rfl) rfl rfl (by kernel_rfl) (does_ex' (ex_load1 rfl rfl Try.underlying39 rfl ((HM.box_at 1 rfl) 0 _ rfl))) ?_
            rintro _ _ ⟨rfl, rfl⟩
            refine ⟨hS, ?_⟩
            refine dt 6 (bs 18 2167) rfl rfl rfl rfl (by kernel_rfl) (ex_len (d := kInt) (xs := a1224) rfl rfl Try.underlying39 (HM.own_rd 2 rfl)) hS ?_
            refine dt 7 (bs 18 2295) rfl rfl rfl rfl (by kernel_rfl) (ex_sub rfl rfl rfl) hS ?_
            exact drw_sub (K1305 _ HM) (Sub.cons rfl (Sub.cons rfl (Sub.cons rfl (Sub.cons rfl (Sub.cons rfl (Sub.cons rfl (Sub.cons rfl (Sub.cons rfl Sub.nil))))))))
          · skip
            obtain ⟨F1249, hF1250, hFn1251, hFl1252, HMh1253, hcl1254⟩ := HM.hide (Ms := [box b0 150 [p0_0, .int .i64 a1222]])
            refine br_does (l' := (bs 18 6167)) rfl (guard_none rfl) rfl rfl (by kernel_rfl) (does_callk rfl callok52 rfl (spec_l1Next.calls (x0 := (⟨x0.fCode, a1222⟩ : l1Src)) (x1 := 2) (hide_olds _ _) hF1250 hFn1251 hFl1252 (HMh1253.rdo hwo hp0_0) h1248)) ?_
            rintro _ w1323 ⟨rfl, hn⟩
            replace HM : Mem w X w1323 [box b0 150 [p0_0, .int .i64 t1247.2], box b1123 67 [v1223, .int .i64 0, .int .i64 0], own kInt 2 v1223 a1224, box b1108 67 [.slice none 0 0, .int .i64 0, .int .i64 0]] := hcl1254 _ _ hn
            have hS := Mem.suf (M := [box b0 150 [p0_0, .int .i64 t1247.2], box b1123 67 [v1223, .int .i64 0, .int .i64 0], own kInt 2 v1223 a1224]) HM
            refine ⟨hS, ?_⟩
            exact drw_sub (K1319 _ HM) (Sub.cons rfl (Sub.cons rfl (Sub.cons rfl (Sub.cons rfl (Sub.cons rfl (Sub.cons rfl (Sub.cons rfl (Sub.cons rfl Sub.nil))))))))
        · skip
          refine br_does (l' := (bs 18 2077)) rfl (guard_none rfl) rfl rfl (by kernel_rfl) (does_ex' (ex_load1 rfl rfl Try.underlying39 rfl ((HM.box_at 1 rfl) 0 _ rfl))) ?_
          rintro _ _ ⟨rfl, rfl⟩
          refine ⟨hS, ?_⟩
          refine drw_any [1, 5, 12] (by kernel_rfl) rfl (.cons ?_ (.cons ?_ (.cons ?_ .nil)))
          · skip
            refine br_does (l' := (bs 18 2079)) rfl (guard_none rfl) rfl rfl (by kernel_rfl) (does_ex' (ex_load1 rfl rfl Try.underlying39 rfl ((HM.box_at 1 rfl) 0 _ rfl))) ?_
            rintro _ _ ⟨rfl, rfl⟩
            refine ⟨hS, ?_⟩
            exact drw_sub (K1316 _ HM) (Sub.cons rfl (Sub.cons rfl (Sub.cons rfl (Sub.cons rfl (Sub.cons rfl (Sub.cons rfl (Sub.cons rfl (Sub.cons rfl Sub.nil))))))))
          · skip
            refine br_does (l' := (bs 18 2109)) rfl (guard_none rfl) rfl rfl (by kernel_rfl) (does_ex' (ex_load1 rfl rfl Try.underlying39 rfl ((HM.box_at 1 rfl) 0 _ rfl))) ?_
            rintro _ _ ⟨rfl, rfl⟩
            refine ⟨hS, ?_⟩
            refine dt 6 (bs 18 2173) rfl rfl rfl rfl (by kernel_rfl) (ex_len (d := kInt) (xs := a1224) rfl rfl Try.underlying39 (HM.own_rd 2 rfl)) hS ?_
            refine dt 7 (bs 18 2301) rfl rfl rfl rfl (by kernel_rfl) (ex_sub rfl rfl rfl) hS ?_
            exact drw_sub (K1308 _ HM) (Sub.cons rfl (Sub.cons rfl (Sub.cons rfl (Sub.cons rfl (Sub.cons rfl (Sub.cons rfl (Sub.cons rfl (Sub.cons rfl Sub.nil))))))))
          · skip
            obtain ⟨F1249, hF1250, hFn1251, hFl1252, HMh1253, hcl1254⟩ := HM.hide (Ms := [box b0 150 [p0_0, .int .i64 a1222]])
            refine br_does (l' := (bs 18 6173)) rfl (guard_none rfl) rfl rfl (by kernel_rfl) (does_callk rfl callok52 rfl (spec_l1Next.calls (x0 := (⟨x0.fCode, a1222⟩ : l1Src)) (x1 := 2) (hide_olds _ _) hF1250 hFn1251 hFl1252 (HMh1253.rdo hwo hp0_0) h1248)) ?_
            rintro _ w1324 ⟨rfl, hn⟩
            replace HM : Mem w X w1324 [box b0 150 [p0_0, .int .i64 t1247.2], box b1123 67 [v1223, .int .i64 0, .int .i64 0], own kInt 2 v1223 a1224, box b1108 67 [.slice none 0 0, .int .i64 0, .int .i64 0]] := hcl1254 _ _ hn
            have hS := Mem.suf (M := [box b0 150 [p0_0, .int .i64 t1247.2], box b1123 67 [v1223, .int .i64 0, .int .i64 0], own kInt 2 v1223 a1224]) HM
            refine ⟨hS, ?_⟩
            exact drw_sub (K1321 _ HM) (Sub.cons rfl (Sub.cons rfl (Sub.cons rfl (Sub.cons rfl (Sub.cons rfl (Sub.cons rfl (Sub.cons rfl (Sub.cons rfl Sub.nil))))))))
        · skip
          refine br_does (l' := (bs 18 2101)) rfl (guard_none rfl) rfl rfl (by kernel_rfl) (does_ex' (ex_load1 rfl rfl Try.underlying39 rfl ((HM.box_at 1 rfl) 0 _ rfl))) ?_
          rintro _ _ ⟨rfl, rfl⟩
          refine ⟨hS, ?_⟩
          refine dt 6 (bs 18 2165) rfl rfl rfl rfl (by kernel_rfl) (ex_len (d := kInt) (xs := a1224) rfl rfl Try.underlying39 (HM.own_rd 2 rfl)) hS ?_
          refine dt 7 (bs 18 2293) rfl rfl rfl rfl (by kernel_rfl) (ex_sub rfl rfl rfl) hS ?_
          refine drw_any [1, 3, 12] (by kernel_rfl) rfl (.cons ?_ (.cons ?_ (.cons ?_ .nil)))
          · skip
            refine br_does (l' := (bs 18 2295)) rfl (guard_none rfl) rfl rfl (by kernel_rfl) (does_ex' (ex_load1 rfl rfl Try.underlying39 rfl ((HM.box_at 1 rfl) 0 _ rfl))) ?_
            rintro _ _ ⟨rfl, rfl⟩
            refine ⟨hS, ?_⟩
            exact drw_sub (K1305 _ HM) (Sub.cons rfl (Sub.cons rfl (Sub.cons rfl (Sub.cons rfl (Sub.cons rfl (Sub.cons rfl (Sub.cons rfl (Sub.cons rfl Sub.nil))))))))
          · skip
            refine br_does (l' := (bs 18 2301)) rfl (guard_none rfl) rfl rfl (by kernel_rfl) (does_ex' (ex_load1 rfl rfl Try.underlying39 rfl ((HM.box_at 1 rfl) 0 _ rfl))) ?_
            rintro _ _ ⟨rfl, rfl⟩
            refine ⟨hS, ?_⟩
            exact drw_sub (K1308 _ HM) (Sub.cons rfl (Sub.cons rfl (Sub.cons rfl (Sub.cons rfl (Sub.cons rfl (Sub.cons rfl (Sub.cons rfl (Sub.cons rfl Sub.nil))))))))
          · skip
            obtain ⟨F1249, hF1250, hFn1251, hFl1252, HMh1253, hcl1254⟩ := HM.hide (Ms := [box b0 150 [p0_0, .int .i64 a1222]])
            refine br_does (l' := (bs 18 6389)) rfl (guard_none rfl) rfl rfl (by kernel_rfl) (does_callk rfl callok52 rfl (spec_l1Next.calls (x0 := (⟨x0.fCode, a1222⟩ : l1Src)) (x1 := 2) (hide_olds _ _) hF1250 hFn1251 hFl1252 (HMh1253.rdo hwo hp0_0) h1248)) ?_
            rintro _ w1325 ⟨rfl, hn⟩
            replace HM : Mem w X w1325 [box b0 150 [p0_0, .int .i64 t1247.2], box b1123 67 [v1223, .int .i64 0, .int .i64 0], own kInt 2 v1223 a1224, box b1108 67 [.slice none 0 0, .int .i64 0, .int .i64 0]] := hcl1254 _ _ hn
            have hS := Mem.suf (M := [box b0 150 [p0_0, .int .i64 t1247.2], box b1123 67 [v1223, .int .i64 0, .int .i64 0], own kInt 2 v1223 a1224]) HM
            refine ⟨hS, ?_⟩
            exact drw_sub (K1312 _ HM) (Sub.cons rfl (Sub.cons rfl (Sub.cons rfl (Sub.cons rfl (Sub.cons rfl (Sub.cons rfl (Sub.cons rfl (Sub.cons rfl Sub.nil))))))))
        · skip
          obtain ⟨F1249, hF1250, hFn1251, hFl1252, HMh1253, hcl1254⟩ := HM.hide (Ms := [box b0 150 [p0_0, .int .i64 a1222]])
          refine br_does (l' := (bs 18 6165)) rfl (guard_none rfl) rfl rfl (by kernel_rfl) (does_callk rfl callok52 rfl (spec_l1Next.calls (x0 := (⟨x0.fCode, a1222⟩ : l1Src)) (x1 := 2) (hide_olds _ _) hF1250 hFn1251 hFl1252 (HMh1253.rdo hwo hp0_0) h1248)) ?_
          rintro _ w1326 ⟨rfl, hn⟩
          replace HM : Mem w X w1326 [box b0 150 [p0_0, .int .i64 t1247.2], box b1123 67 [v1223, .int .i64 0, .int .i64 0], own kInt 2 v1223 a1224, box b1108 67 [.slice none 0 0, .int .i64 0, .int .i64 0]] := hcl1254 _ _ hn
          have hS := Mem.suf (M := [box b0 150 [p0_0, .int .i64 t1247.2], box b1123 67 [v1223, .int .i64 0, .int .i64 0], own kInt 2 v1223 a1224]) HM
          refine ⟨hS, ?_⟩
          refine drw_any [1, 3, 5] (by kernel_rfl) rfl (.cons ?_ (.cons ?_ (.cons ?_ .nil)))
          · skip
            refine br_does (l' := (bs 18 6167)) rfl (guard_none rfl) rfl rfl (by kernel_rfl) (does_ex' (ex_load1 rfl rfl Try.underlying39 rfl ((HM.box_at 1 rfl) 0 _ rfl))) ?_
            rintro _ _ ⟨rfl, rfl⟩
            refine ⟨hS, ?_⟩
            exact drw_sub (K1319 _ HM) (Sub.cons rfl (Sub.cons rfl (Sub.cons rfl (Sub.cons rfl (Sub.cons rfl (Sub.cons rfl (Sub.cons rfl (Sub.cons rfl Sub.nil))))))))
          · skip
            refine br_does (l' := (bs 18 6173)) rfl (guard_none rfl) rfl rfl (by kernel_rfl) (does_ex' (ex_load1 rfl rfl Try.underlying39 rfl ((HM.box_at 1 rfl) 0 _ rfl))) ?_
            rintro _ _ ⟨rfl, rfl⟩
            refine ⟨hS, ?_⟩
            exact drw_sub (K1321 _ HM) (Sub.cons rfl (Sub.cons rfl (Sub.cons rfl (Sub.cons rfl (Sub.cons rfl (Sub.cons rfl (Sub.cons rfl (Sub.cons rfl Sub.nil))))))))
          · skip
            refine br_does (l' := (bs 18 6197)) rfl (guard_none rfl) rfl rfl (by kernel_rfl) (does_ex' (ex_load1 rfl rfl Try.underlying39 rfl ((HM.box_at 1 rfl) 0 _ rfl))) ?_
            rintro _ _ ⟨rfl, rfl⟩
            refine ⟨hS, ?_⟩
            refine dt 6 (bs 18 6261) rfl rfl rfl rfl (by kernel_rfl) (ex_len (d := kInt) (xs := a1224) rfl rfl Try.underlying39 (HM.own_rd 2 rfl)) hS ?_
            refine dt 7 (bs 18 6389) rfl rfl rfl rfl (by kernel_rfl) (ex_sub rfl rfl rfl) hS ?_
            exact drw_sub (K1312 _ HM) (Sub.cons rfl (Sub.cons rfl (Sub.cons rfl (Sub.cons rfl (Sub.cons rfl (Sub.cons rfl (Sub.cons rfl (Sub.cons rfl Sub.nil))))))))
      · rintro _ w1327 ⟨v1259, rfl, HM⟩
        refine at_block ?_
        refine at_then ?_
        refine run_region rfl ?_
        refine ox rfl rfl rfl rfl (ex_move rfl rfl) ?_
        refine ox rfl rfl rfl rfl (ex_sub rfl rfl rfl) ?_
        refine ox rfl rfl rfl rfl (ex_assign rfl rfl) ?_
        refine ops_nil ?_
        exact at_again k1243 (ρ1 := [(0, .pointer (some ⟨b0, 0, none⟩)), (2, .pointer (some ⟨b1108, 0, none⟩)), (3, .pointer (some ⟨b1123, 0, none⟩)), (4, .int .i64 (wrap64 (a1226 - 1)))]) (Nat.lt_succ_self _) ⟨_, _, _, _, ho1196, rfl, HM⟩ (Sub.cons rfl (Sub.cons rfl (Sub.cons rfl (Sub.cons rfl Sub.nil))))
    · replace ho1196 := cond_f hb1245 ho1196
      refine run_exit ?_
      refine at_then_exit ?_
      refine at_then_exit ?_
      refine at_block_exit ?_
      exact at_mid (ρ' := [(0, .pointer (some ⟨b0, 0, none⟩)), (2, .pointer (some ⟨b1108, 0, none⟩)), (3, .pointer (some ⟨b1123, 0, none⟩))]) ⟨_, _, _, (Option.some.inj ho1196), rfl, HM⟩ (Sub.cons rfl (Sub.cons rfl (Sub.cons rfl Sub.nil)))
  · rintro _ w1328 ⟨a1191, v1192, a1193, rfl, rfl, HM⟩
    replace H := cur2_mk H
    refine run_seq ?_
    obtain ⟨t1329, h1330, H⟩ := bind_some H
    refine run_region rfl ?_
    refine ox rfl rfl rfl rfl (ex_move rfl rfl) ?_
    refine ox rfl rfl rfl rfl (ex_fieldAddr (off' := 0) rfl rfl Try.underlying67 rfl tsz39 rfl) ?_
    refine ox rfl rfl rfl rfl (ex_load1 rfl rfl Try.underlying39 rfl ((HM.box_at 2 rfl) 0 _ rfl)) ?_
    refine ox rfl rfl rfl rfl (ex_len (d := kInt) (xs := a1193) rfl rfl Try.underlying39 (HM.own_rd 3 rfl)) ?_
    obtain ⟨F1331, hF1332, hFn1333, hFl1334, HMh1335, hcl1336⟩ := HM.hide (Ms := [box b0 150 [p0_0, .int .i64 a1191]])
    refine od rfl rfl rfl rfl (does_callk rfl callok52 rfl (spec_l1Next.calls (x0 := (⟨x0.fCode, a1191⟩ : l1Src)) (x1 := (a1193.length : Int)) (hide_olds _ _) hF1332 hFn1333 hFl1334 (HMh1335.rdo hwo hp0_0) h1330)) ?_
    rintro _ w1337 ⟨rfl, hn⟩
    replace HM : Mem w X w1337 [box b0 150 [p0_0, .int .i64 t1329.2], box b1108 67 [.slice none 0 0, .int .i64 0, .int .i64 0], box b1123 67 [v1192, .int .i64 0, .int .i64 0], own kInt 2 v1192 a1193] := hcl1336 _ _ hn
    refine ox rfl rfl rfl rfl (ex_add rfl rfl rfl) ?_
    refine ox rfl rfl rfl rfl (ex_fieldAddr (off' := 1) rfl rfl Try.underlying67 rfl tsz2 rfl) ?_
    replace HM := HM.front 2 rfl rfl
    refine odS rfl rfl rfl (does_store (vs := [.int .i64 (wrap64 (1 + t1329.1))]) (cs' := [v1192, .int .i64 (wrap64 (1 + t1329.1)), .int .i64 0]) rfl rfl rfl rfl tsz2 (Ones.int Ones.nil) rfl rfl HM) ?_
    rintro w1338 HM
    refine ops_nil (at_then (run_seq ?_))
    obtain ⟨t1339, h1340, H⟩ := bind_some H
    obtain ⟨t1350, h1351, H⟩ := bind_some H
    refine run_region rfl ?_
    refine ox rfl rfl rfl rfl (ex_move rfl rfl) ?_
    refine ox rfl rfl rfl rfl (ex_move rfl rfl) ?_
    replace HM := HM.front 1 rfl rfl
    obtain ⟨F1341, hF1342, hFn1343, hFl1344, HMh1345, hcl1346⟩ := HM.hide (Ms := [box b0 150 [p0_0, .int .i64 t1329.2]])
    refine od rfl rfl rfl rfl (does_callk rfl callok52 rfl (spec_l1Next.calls (x0 := (⟨x0.fCode, t1329.2⟩ : l1Src)) (x1 := 9) (hide_olds _ _) hF1342 hFn1343 hFl1344 (HMh1345.rdo hwo hp0_0) h1340)) ?_
    rintro _ w1358 ⟨rfl, hn⟩
    replace HM : Mem w X w1358 [box b0 150 [p0_0, .int .i64 t1339.2], box b1123 67 [v1192, .int .i64 (wrap64 (1 + t1329.1)), .int .i64 0], box b1108 67 [.slice none 0 0, .int .i64 0, .int .i64 0], own kInt 2 v1192 a1193] := hcl1346 _ _ hn
    refine od rfl rfl rfl rfl (does_lit (e := 2) (cs := [.int .i64 0, .int .i64 0, .int .i64 0, .int .i64 t1339.1]) (xs := ([0, 0, 0, t1339.1] : List Int)) kInt rfl rfl (fun _ => by kernel_rfl) rfl rfl (fun _ _ h => by have h' : _ = [] := h; subst h'; exact (Elems.cons (d := kInt) (x := 0) (f := []) ⟨rfl, rfl⟩ (Elems.cons (d := kInt) (x := 0) (f := []) ⟨rfl, rfl⟩ (Elems.cons (d := kInt) (x := 0) (f := []) ⟨rfl, rfl⟩ (Elems.cons (d := kInt) (x := t1339.1) (f := []) ⟨rfl, rfl⟩ .nil))))) HM.emp) ?_
    rintro v1347 w1359 HM
    replace HM := HM.front 1 rfl rfl
    obtain ⟨F1352, hF1353, hFn1354, hFl1355, HMh1356, hcl1357⟩ := HM.hide (Ms := [box b0 150 [p0_0, .int .i64 t1339.2]])
    refine od rfl rfl rfl rfl (does_callk rfl callok53 rfl (spec_l1Pick.calls (x0 := (⟨x0.fCode, t1339.2⟩ : l1Src)) (x1 := ([0, 0, 0, t1339.1] : List Int)) (hide_olds _ _) hF1353 hFn1354 hFl1355 (HMh1356.rdo hwo hp0_0) (HMh1356.own_rd 0 rfl) h1351)) ?_
    rintro _ w1360 ⟨rfl, hn⟩
    replace HM : Mem w X w1360 [box b0 150 [p0_0, .int .i64 t1350.2], own kInt 2 v1347 ([0, 0, 0, t1339.1] : List Int), box b1123 67 [v1192, .int .i64 (wrap64 (1 + t1329.1)), .int .i64 0], box b1108 67 [.slice none 0 0, .int .i64 0, .int .i64 0], own kInt 2 v1192 a1193] := hcl1357 _ _ hn
    refine ox rfl rfl rfl rfl (ex_fieldAddr (off' := 2) rfl rfl Try.underlying67 rfl tsz2 rfl) ?_
    replace HM := HM.front 2 rfl rfl
    refine odS rfl rfl rfl (does_store (vs := [.int .i64 t1350.1]) (cs' := [v1192, .int .i64 (wrap64 (1 + t1329.1)), .int .i64 t1350.1]) rfl rfl rfl rfl tsz2 (Ones.int Ones.nil) rfl rfl HM) ?_
    rintro w1361 HM
    refine ops_nil (at_then (run_seq ?_))
    refine run_region rfl ?_
    refine ox rfl rfl rfl rfl (ex_loadN (cs := [v1192, (.int .i64 (wrap64 (1 + t1329.1))), (.int .i64 t1350.1)]) rfl rfl Try.underlying67 rfl tsz67 rfl ((HM.box_at 0 rfl).sub 0 3 rfl)) ?_
    replace HM := HM.front 3 rfl rfl
    refine odS rfl rfl rfl (does_store (vs := [v1192, .int .i64 (wrap64 (1 + t1329.1)), .int .i64 t1350.1]) (cs' := [v1192, .int .i64 (wrap64 (1 + t1329.1)), .int .i64 t1350.1]) rfl rfl rfl rfl tsz67 (Ones.rd (HM.own_rd 4 rfl) (Ones.int (Ones.int Ones.nil))) rfl rfl HM) ?_
    rintro w1362 HM
    refine ops_nil (at_then ?_)
    refine run_ret ?_
    replace HM := (HM.front 1 rfl rfl).drop
    replace HM := (HM.front 2 rfl rfl).drop
    replace HM := HM.front 1 rfl rfl
    replace HM := HM.front 2 rfl rfl
    replace HM := HM.front 2 rfl rfl
    have hcb0 := HM.box_at 0 rfl
    replace HM := (HM.front 0 rfl rfl).drop
    have hR := Option.some.inj H
    subst hR
    exact at_retN rfl rfl Try.underlying67 rfl tsz67 rfl hcb0 ⟨_, rfl, _, rfl, HM⟩
end Go.Proofs.Ytbbcabpnkdilgaa.Zk
