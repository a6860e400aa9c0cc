/- What functions of the program compute, each as a plain function, and that they do. Conditions: as each theorem states them. -/
import Derived.Test.YtcpacdbdehphkaaDoorFnBlocksZkF1
namespace Go.Proofs.YtcpacdbdehphkaaDoor.Zk
open Go Go.RowKit Go.IntWalk Go.Proofs
set_option linter.unusedVariables false
set_option linter.unusedSimpArgs false
set_option maxRecDepth 100000
set_option maxHeartbeats 4000000
def strings_Join.f (k : Nat) (x0 : List ByteArray) (x1 : ByteArray) : Option ByteArray := (chk (leB x0.length 140737488355328 && leB (Lib.join (x0.map (·.data.toList)) x1.data.toList).length 140737488355328) (some (⟨(Lib.join (x0.map (·.data.toList)) x1.data.toList).toArray⟩ : ByteArray)))
theorem strings_Join.calls {k : Nat} {x0 : List ByteArray} {x1 : ByteArray} {p0 : Value} {w : World} (hp0 : RdS kStr w p0 x0) {r : ByteArray} (H : strings_Join.f k x0 x1 = some r) :
    Calls Tryd.prog 77 ([p0, .string x1] : List Value).toArray w (fun e w_ => ∃ v, e = .returned v ∧ v = (.string r) ∧ Mem w [] w_ []) := by
  obtain ⟨h, H⟩ := chk_some H
  have hR := Option.some.inj H
  subst hR
  rw [Bool.and_eq_true] at h
  have hm : ∀ w_, Below w.heap.size w w_ → Mem w [] w_ [] := fun w_ hb => ⟨Fr.of_below hb nodr, [], .nil, List.nodup_nil, by simp⟩
  obtain ⟨A, c, rfl, hc, hA⟩ := hp0
  rcases hA with rfl | ⟨b, o, rfl, hA⟩
  · exact (Tryd.strings_Join_none A c x1 w).mono fun e w_ ⟨he, hw⟩ => ⟨_, he, rfl, hm _ (hw ▸ Below.refl _ _)⟩
  · cases hx : x0 with
    | nil => subst hx; exact (Tryd.strings_Join_none _ c x1 w).mono fun e w_ ⟨he, hw⟩ => ⟨_, he, rfl, hm _ (hw ▸ Below.refl _ _)⟩
    | cons a l =>
      rw [← hx]
      have hcell : ∀ (j : Nat) x, x0[j]? = some x → w.cell? ⟨b, o + j, none⟩ = some (.string x) := fun j x hj => by
        obtain ⟨hlt, e1⟩ := List.getElem?_eq_some_iff.1 hj
        obtain ⟨cs, h2, h3⟩ := hA j hlt
        have h2' : cs = [Value.string x0[j]] := h2
        subst h2'
        have h4 : w.cell? ⟨b, o + j * 1 + 0, none⟩ = some (.string x0[j]) := h3 0 _ rfl
        rw [e1] at h4
        simpa using h4
      exact (Tryd.strings_Join b o c x0 x1 w hcell (World.block_lt_of_cell? w _ (hcell 0 a (by rw [hx]; rfl))) (leB_le h.1) hc (leB_le h.2)).mono fun e w_ ⟨he, hw⟩ => ⟨_, he, rfl, hm _ hw⟩

def impl_joined.l0 (x0 : List Int) : Nat → (List ByteArray) → Int → Option ((List ByteArray))
  | 0, _, _ => none
  | k + 1, a1420, a1422 => (bif (decide (a1422 < (x0.length : Int))) then (chk (idxOk a1422 x0.length) ((impl_dec.f k (gt x0 a1422)).bind fun t1439 => (chk (leB ((a1420.length + ([t1439] : List ByteArray).length) * 16) 140737488355328) (impl_joined.l0 x0 k (a1420 ++ ([t1439] : List ByteArray)) (wrap64 (a1422 + 1)))))) else some a1420)
theorem impl_joined.l0_z (x0 : List Int) (a1420 : List ByteArray) (a1422 : Int) : impl_joined.l0 x0 0 a1420 a1422 = none := rfl
theorem impl_joined.l0_s (x0 : List Int) (k : Nat) (a1420 : List ByteArray) (a1422 : Int) : impl_joined.l0 x0 (k + 1) a1420 a1422 = (bif (decide (a1422 < (x0.length : Int))) then (chk (idxOk a1422 x0.length) ((impl_dec.f k (gt x0 a1422)).bind fun t1439 => (chk (leB ((a1420.length + ([t1439] : List ByteArray).length) * 16) 140737488355328) (impl_joined.l0 x0 k (a1420 ++ ([t1439] : List ByteArray)) (wrap64 (a1422 + 1)))))) else some a1420) := rfl
def impl_joined.f (k : Nat) (x0 : List Int) (x1 : ByteArray) : Option ByteArray := ((impl_joined.l0 x0 k ([] : List ByteArray) 0).bind (fun a1404 => ((strings_Join.f k a1404 x1).bind fun t1451 => some t1451)))
theorem impl_joined.calls {k : Nat} {x0 : List Int} {x1 : ByteArray} {p0 : Value} {w : World} (htab : TabP w) (hp0 : RdS kInt w p0 x0) {r : ByteArray} (H : impl_joined.f k x0 x1 = some r) :
    Calls Tryd.prog 92 ([p0, .string x1] : List Value).toArray w (fun e w_ => ∃ v, e = .returned v ∧ v = (.string r) ∧ Mem w [] w_ []) := by
  have HM := Mem.start w
  refine calls_run (N := 24) Tryd.func92 rfl rfl rfl rfl ?_
  unfold impl_joined.f at H
  refine run_seq ?_
  refine run_region rfl ?_
  refine ops_ex rfl (guard_none rfl) rfl rfl (ex_assign rfl rfl) ?_
  refine ops_nil ?_
  refine at_then ?_
  refine run_seq ?_
  refine run_region rfl ?_
  refine ops_does rfl (guard_none rfl) rfl rfl (does_lit (e := 9) (cs := []) (xs := ([] : List ByteArray)) kStr rfl rfl (fun _ => by kernel_rfl) rfl rfl (fun _ _ h => by have h' : _ = [] := h; subst h'; exact .nil) HM.emp) ?_
  rintro v1362 w1365 HM
  refine ops_ex rfl (guard_none rfl) rfl rfl (ex_assign rfl rfl) ?_
  refine ops_nil ?_
  refine at_then ?_
  obtain ⟨o1406, ho1407, H⟩ := bind_some H
  refine run_mid (fun ρ_ w_ => ∃ v1403 : Value, ∃ a1404 : List ByteArray, a1404 = o1406 ∧ ρ_ = [(1, .string x1), (5, v1403)] ∧ Mem w [] w_ [own kStr 9 v1403 a1404]) ?_ ?_
  · clear H
    refine run_seq ?_
    refine run_region rfl ?_
    refine ops_ex rfl (guard_none rfl) rfl rfl (ex_move rfl rfl) ?_
    refine ops_ex rfl (guard_none rfl) rfl rfl (ex_len (d := kInt) (xs := x0) rfl rfl Tryd.underlying38 hp0) ?_
    refine ops_ex rfl (guard_none rfl) rfl rfl (ex_move rfl rfl) ?_
    refine ops_nil ?_
    refine at_then ?_
    refine run_block ?_
    refine run_loop (fun k_ ρ_ w_ => ∃ v1419 : Value, ∃ a1420 : List ByteArray, ∃ a1422 : Int, impl_joined.l0 x0 k_ a1420 a1422 = some o1406 ∧ ρ_ = [(1, .string x1), (5, v1419), (9, p0), (10, .int .i64 (x0.length : Int)), (11, .int .i64 a1422)] ∧ Mem w [] w_ [own kStr 9 v1419 a1420]) k (ρ1 := [(1, .string x1), (5, v1362), (9, p0), (10, .int .i64 (x0.length : Int)), (11, .int .i64 0)]) ⟨_, _, _, ho1407, rfl, HM⟩ (Sub.cons rfl (Sub.cons rfl (Sub.cons rfl (Sub.cons rfl (Sub.cons rfl Sub.nil))))) ?_
    clear HM ho1407
    rintro k1434 _ w1435 ⟨v1419, a1420, a1422, ho1407, rfl, HM⟩
    obtain _ | k1434 := k1434
    · exact nomatch ((impl_joined.l0_z x0 a1420 a1422).symm.trans ho1407)
    replace ho1407 := (impl_joined.l0_s x0 k1434 a1420 a1422).symm.trans ho1407
    refine run_seq ?_
    refine run_region rfl ?_
    refine ops_ex rfl (guard_none rfl) rfl rfl (ex_lss rfl rfl rfl) ?_
    refine ops_nil ?_
    refine at_then ?_
    refine run_seq ?_
    refine run_cond (b := (decide (a1422 < (x0.length : Int)))) rfl (fun hb1436 => ?_) (fun hb1436 => ?_)
    · replace ho1407 := cond_t hb1436 ho1407
      refine run_skip ?_
      refine at_then ?_
      refine run_seq ?_
      refine run_block ?_
      refine run_seq ?_
      obtain ⟨e1437, ho1407⟩ := chk_some ho1407
      refine run_region rfl ?_
      have hc1438 : CellsAt _ (sb p0) (so p0 + (a1422).toNat * 1) [(.int .i64 (gt x0 a1422))] := rd_plain hp0 e1437
      refine ops_ex rfl (guard_none rfl) rfl rfl (ex_indexAddr (d := kInt) rfl rfl rfl Tryd.underlying38 tsz2 hp0 (idx_lo e1437) (idx_hi e1437)) ?_
      refine ops_ex rfl (guard_none rfl) rfl rfl (ex_load1 rfl rfl Tryd.underlying2 rfl ((HM.at_ hc1438) 0 _ rfl)) ?_
      refine ops_ex rfl (guard_none rfl) rfl rfl (ex_assign rfl rfl) ?_
      refine ops_nil ?_
      refine at_then ?_
      obtain ⟨t1439, h1440, ho1407⟩ := bind_some ho1407
      obtain ⟨e1444, ho1407⟩ := chk_some ho1407
      refine run_region rfl ?_
      refine ops_ex rfl (guard_none rfl) rfl rfl (ex_move rfl rfl) ?_
      refine ops_ex rfl (guard_none rfl) rfl rfl (ex_move rfl rfl) ?_
      refine ops_does rfl (guard_none rfl) rfl rfl (does_callk rfl callok76 rfl (impl_dec.calls (x0 := (gt x0 a1422)) (HM.tabP htab) h1440)) ?_
      rintro _ w1447 ⟨rfl, hn⟩
      replace HM : Mem w [] w1447 [own kStr 9 v1419 a1420] := HM.call hn
      refine ops_does rfl (guard_none rfl) rfl rfl (does_lit (e := 9) (cs := [.string t1439]) (xs := ([t1439] : List ByteArray)) kStr rfl rfl (fun _ => by kernel_rfl) rfl rfl (fun _ _ h => by have h' : _ = [] := h; subst h'; exact (Elems.cons (d := kStr) (x := t1439) (f := []) ⟨rfl, rfl⟩ .nil)) HM.emp) ?_
      rintro v1441 w1448 HM
      replace HM := HM.front 1 rfl rfl
      refine ops_does rfl (guard_none rfl) rfl rfl (does_appendR kStr flat_plain rfl rfl rfl Tryd.underlying103 tsz9 rfl tby9 tz9 rfl rfl (leB_le e1444) (HM.own_rd 1 rfl) HM) ?_
      rintro v1445 w1449 HM
      refine ops_ex rfl (guard_none rfl) rfl rfl (ex_assign rfl rfl) ?_
      refine ops_nil ?_
      refine at_block ?_
      refine at_then ?_
      refine run_region rfl ?_
      refine ops_ex rfl (guard_none rfl) rfl rfl (ex_add rfl rfl rfl) ?_
      refine ops_ex rfl (guard_none rfl) rfl rfl (ex_move rfl rfl) ?_
      refine ops_nil ?_
      replace HM := (HM.front 1 rfl rfl).drop
      exact at_again k1434 (ρ1 := [(1, .string x1), (5, v1445), (9, p0), (10, .int .i64 (x0.length : Int)), (11, .int .i64 (wrap64 (a1422 + 1)))]) (Nat.lt_succ_self _) ⟨_, _, _, ho1407, rfl, HM⟩ (Sub.cons rfl (Sub.cons rfl (Sub.cons rfl (Sub.cons rfl (Sub.cons rfl Sub.nil)))))
    · replace ho1407 := cond_f hb1436 ho1407
      refine run_exit ?_
      refine at_then_exit ?_
      refine at_then_exit ?_
      refine at_block_exit ?_
      exact at_mid (ρ' := [(1, .string x1), (5, v1419)]) ⟨_, _, (Option.some.inj ho1407), rfl, HM⟩ (Sub.cons rfl (Sub.cons rfl Sub.nil))
  · rintro _ w1450 ⟨v1403, a1404, rfl, rfl, HM⟩
    refine run_seq ?_
    obtain ⟨t1451, h1452, H⟩ := bind_some H
    refine run_region rfl ?_
    refine ops_ex rfl (guard_none rfl) rfl rfl (ex_move rfl rfl) ?_
    refine ops_ex rfl (guard_none rfl) rfl rfl (ex_move rfl rfl) ?_
    refine ops_does rfl (guard_none rfl) rfl rfl (does_callk rfl callok77 rfl (strings_Join.calls (x0 := a1404) (x1 := x1) (HM.own_rd 0 rfl) h1452)) ?_
    rintro _ w1453 ⟨rfl, hn⟩
    replace HM : Mem w [] w1453 [own kStr 9 v1403 a1404] := HM.call hn
    refine ops_ex rfl (guard_none rfl) rfl rfl (ex_assign rfl rfl) ?_
    refine ops_nil ?_
    refine at_then ?_
    refine run_ret ?_
    replace HM := (HM.front 0 rfl rfl).drop
    have hR := Option.some.inj H
    subst hR
    exact at_ret1 rfl rfl ⟨_, rfl, rfl, HM⟩

def impl_blockText.f (k : Nat) (x0 : Block) : Option ByteArray := ((bif (decide (0 < (x0.fTxs.length : Int))) then ((impl_joined.f k x0.fTxs (⟨#[43]⟩ : ByteArray)).bind fun t1484 => some t1484) else some (⟨#[45]⟩ : ByteArray)).bind (fun a1480 => ((impl_joined.f k ([x0.fPrev, x0.fHeight, x0.fMiner] : List Int) (⟨#[32]⟩ : ByteArray)).bind fun t1491 => (chk (leB ((⟨#[98, 108, 111, 99, 107, 32]⟩ : ByteArray).size + t1491.size) 9223372036854775807) (chk (leB (((⟨#[98, 108, 111, 99, 107, 32]⟩ : ByteArray) ++ t1491).size + (⟨#[32]⟩ : ByteArray).size) 9223372036854775807) (chk (leB ((((⟨#[98, 108, 111, 99, 107, 32]⟩ : ByteArray) ++ t1491) ++ (⟨#[32]⟩ : ByteArray)).size + a1480.size) 9223372036854775807) (some ((((⟨#[98, 108, 111, 99, 107, 32]⟩ : ByteArray) ++ t1491) ++ (⟨#[32]⟩ : ByteArray)) ++ a1480))))))))
theorem impl_blockText.calls {k : Nat} {x0 : Block} {p0_0 : Value} {w : World} (htab : TabP w) (hp0_0 : RdS kInt w p0_0 x0.fTxs) {r : ByteArray} (H : impl_blockText.f k x0 = some r) :
    Calls Tryd.prog 50 ([.agg #[(.int .i64 x0.fPrev), (.int .i64 x0.fHeight), (.int .i64 x0.fMiner), p0_0]] : List Value).toArray w (fun e w_ => ∃ v, e = .returned v ∧ v = (.string r) ∧ Mem w [] w_ []) := by
  have HM := Mem.start w
  refine calls_run (N := 23) Tryd.func50 rfl rfl rfl rfl ?_
  unfold impl_blockText.f at H
  refine run_seq ?_
  refine run_region rfl ?_
  refine ops_does rfl (guard_none rfl) rfl rfl (does_box (cs := [.int .i64 x0.fPrev, .int .i64 x0.fHeight, .int .i64 x0.fMiner, p0_0]) rfl rfl rfl HM) ?_
  rintro _ w1473 ⟨b1470, rfl, HM⟩
  refine ops_ex rfl (guard_none rfl) rfl rfl (ex_assign rfl rfl) ?_
  refine ops_nil ?_
  refine at_then ?_
  refine run_seq ?_
  refine run_region rfl ?_
  refine ops_ex rfl (guard_none rfl) rfl rfl (ex_assign rfl rfl) ?_
  refine ops_nil ?_
  refine at_then ?_
  obtain ⟨o1481, ho1482, H⟩ := bind_some H
  refine run_mid (fun ρ_ w_ => ∃ a1480 : ByteArray, a1480 = o1481 ∧ ρ_ = [(1, .pointer (some ⟨b1470, 0, none⟩)), (3, .string a1480)] ∧ Mem w [] w_ [box b1470 51 [.int .i64 x0.fPrev, .int .i64 x0.fHeight, .int .i64 x0.fMiner, p0_0]]) ?_ ?_
  · clear H
    refine run_seq ?_
    refine run_region rfl ?_
    refine ops_ex rfl (guard_none rfl) rfl rfl (ex_fieldAddr (off' := 3) rfl rfl Tryd.underlying51 rfl tsz38 rfl) ?_
    refine ops_ex rfl (guard_none rfl) rfl rfl (ex_load1 rfl rfl Tryd.underlying38 rfl ((HM.box_at 0 rfl) 3 _ rfl)) ?_
    refine ops_ex rfl (guard_none rfl) rfl rfl (ex_len (d := kInt) (xs := x0.fTxs) rfl rfl Tryd.underlying38 hp0_0) ?_
    refine ops_ex rfl (guard_none rfl) rfl rfl (ex_gtr rfl rfl rfl) ?_
    refine ops_nil ?_
    refine at_then ?_
    refine run_cond (b := (decide (0 < (x0.fTxs.length : Int)))) rfl (fun hb1483 => ?_) (fun hb1483 => ?_)
    · replace ho1482 := cond_t hb1483 ho1482
      obtain ⟨t1484, h1485, ho1482⟩ := bind_some ho1482
      refine run_region rfl ?_
      refine ops_ex rfl (guard_none rfl) rfl rfl (ex_fieldAddr (off' := 3) rfl rfl Tryd.underlying51 rfl tsz38 rfl) ?_
      refine ops_ex rfl (guard_none rfl) rfl rfl (ex_load1 rfl rfl Tryd.underlying38 rfl ((HM.box_at 0 rfl) 3 _ rfl)) ?_
      refine ops_does rfl (guard_none rfl) rfl rfl (does_callk rfl callok92 rfl (impl_joined.calls (x0 := x0.fTxs) (x1 := (⟨#[43]⟩ : ByteArray)) (HM.tabP htab) (HM.rd hp0_0) h1485)) ?_
      rintro _ w1486 ⟨rfl, hn⟩
      replace HM : Mem w [] w1486 [box b1470 51 [.int .i64 x0.fPrev, .int .i64 x0.fHeight, .int .i64 x0.fMiner, p0_0]] := HM.call hn
      refine ops_ex rfl (guard_none rfl) rfl rfl (ex_assign rfl rfl) ?_
      refine ops_nil ?_
      exact at_mid (ρ' := [(1, .pointer (some ⟨b1470, 0, none⟩)), (3, .string t1484)]) ⟨_, (Option.some.inj ho1482), rfl, HM⟩ (Sub.cons rfl (Sub.cons rfl Sub.nil))
    · replace ho1482 := cond_f hb1483 ho1482
      refine run_skip ?_
      exact at_mid (ρ' := [(1, .pointer (some ⟨b1470, 0, none⟩)), (3, .string (⟨#[45]⟩ : ByteArray))]) ⟨_, (Option.some.inj ho1482), rfl, HM⟩ (Sub.cons rfl (Sub.cons rfl Sub.nil))
  · rintro _ w1487 ⟨a1480, rfl, rfl, HM⟩
    refine run_seq ?_
    obtain ⟨t1491, h1492, H⟩ := bind_some H
    obtain ⟨e1493, H⟩ := chk_some H
    obtain ⟨e1494, H⟩ := chk_some H
    obtain ⟨e1495, H⟩ := chk_some H
    refine run_region rfl ?_
    refine ops_ex rfl (guard_none rfl) rfl rfl (ex_fieldAddr (off' := 0) rfl rfl Tryd.underlying51 rfl tsz2 rfl) ?_
    refine ops_ex rfl (guard_none rfl) rfl rfl (ex_load1 rfl rfl Tryd.underlying2 rfl ((HM.box_at 0 rfl) 0 _ rfl)) ?_
    refine ops_ex rfl (guard_none rfl) rfl rfl (ex_fieldAddr (off' := 1) rfl rfl Tryd.underlying51 rfl tsz2 rfl) ?_
    refine ops_ex rfl (guard_none rfl) rfl rfl (ex_load1 rfl rfl Tryd.underlying2 rfl ((HM.box_at 0 rfl) 1 _ rfl)) ?_
    refine ops_ex rfl (guard_none rfl) rfl rfl (ex_fieldAddr (off' := 2) rfl rfl Tryd.underlying51 rfl tsz2 rfl) ?_
    refine ops_ex rfl (guard_none rfl) rfl rfl (ex_load1 rfl rfl Tryd.underlying2 rfl ((HM.box_at 0 rfl) 2 _ rfl)) ?_
    refine ops_does rfl (guard_none rfl) rfl rfl (does_lit (e := 2) (cs := [.int .i64 x0.fPrev, .int .i64 x0.fHeight, .int .i64 x0.fMiner]) (xs := ([x0.fPrev, x0.fHeight, x0.fMiner] : List Int)) kInt rfl rfl (fun _ => by kernel_rfl) rfl rfl (fun _ _ h => by have h' : _ = [] := h; subst h'; exact (Elems.cons (d := kInt) (x := x0.fPrev) (f := []) ⟨rfl, rfl⟩ (Elems.cons (d := kInt) (x := x0.fHeight) (f := []) ⟨rfl, rfl⟩ (Elems.cons (d := kInt) (x := x0.fMiner) (f := []) ⟨rfl, rfl⟩ .nil)))) HM.emp) ?_
    rintro v1488 w1496 HM
    refine ops_does rfl (guard_none rfl) rfl rfl (does_callk rfl callok92 rfl (impl_joined.calls (x0 := ([x0.fPrev, x0.fHeight, x0.fMiner] : List Int)) (x1 := (⟨#[32]⟩ : ByteArray)) (HM.tabP htab) (HM.own_rd 0 rfl) h1492)) ?_
    rintro _ w1497 ⟨rfl, hn⟩
    replace HM : Mem w [] w1497 [own kInt 2 v1488 ([x0.fPrev, x0.fHeight, x0.fMiner] : List Int), box b1470 51 [.int .i64 x0.fPrev, .int .i64 x0.fHeight, .int .i64 x0.fMiner, p0_0]] := HM.call hn
    refine ops_ex rfl (guard_none rfl) rfl rfl (ex_sadd rfl rfl rfl (leB_le e1493)) ?_
    refine ops_ex rfl (guard_none rfl) rfl rfl (ex_sadd rfl rfl rfl (leB_le e1494)) ?_
    refine ops_ex rfl (guard_none rfl) rfl rfl (ex_move rfl rfl) ?_
    refine ops_ex rfl (guard_none rfl) rfl rfl (ex_sadd rfl rfl rfl (leB_le e1495)) ?_
    refine ops_ex rfl (guard_none rfl) rfl rfl (ex_assign rfl rfl) ?_
    refine ops_nil ?_
    refine at_then ?_
    refine run_ret ?_
    replace HM := (HM.front 0 rfl rfl).drop
    replace HM := (HM.front 0 rfl rfl).drop
    have hR := Option.some.inj H
    subst hR
    exact at_ret1 rfl rfl ⟨_, rfl, rfl, HM⟩

def impl_readBlock.f (k : Nat) (x0 : ByteArray) : Option (Block × Bool) := ((strings_Split.f k x0 (⟨#[32]⟩ : ByteArray)).bind fun t1505 => (bif ((decide (300 < (x0.size : Int))) || ((t1505.length : Int) != 5)) then some ((⟨0, 0, 0, ([] : List Int)⟩ : Block), false) else (chk (idxOk (1 : Int) t1505.length) (chk (idxOk (2 : Int) t1505.length) (chk (idxOk (3 : Int) t1505.length) ((impl_number.f k (gt t1505 (1 : Int))).bind fun t1520 => ((impl_number.f k (gt t1505 (2 : Int))).bind fun t1522 => ((impl_number.f k (gt t1505 (3 : Int))).bind fun t1524 => ((chk (idxOk (4 : Int) t1505.length) (bif (!sEq (gt t1505 (4 : Int)) (⟨#[45]⟩ : ByteArray)) then (chk (idxOk (4 : Int) t1505.length) ((impl_numbers.f k (gt t1505 (4 : Int)) (⟨#[43]⟩ : ByteArray)).bind fun t1569 => some t1569)) else some ([] : List Int))).bind (fun a1562 => ((impl_BlockFault.f k (⟨t1520, t1522, t1524, a1562⟩ : Block)).bind fun t1577 => ((bif (!(t1577 != 0)) then impl_blockText.f k (⟨t1520, t1522, t1524, a1562⟩ : Block) else some default).bind fun t1579 => (bif ((t1577 != 0) || (!sEq t1579 x0)) then some ((⟨0, 0, 0, ([] : List Int)⟩ : Block), false) else some ((⟨t1520, t1522, t1524, a1562⟩ : Block), true))))))))))))))
theorem impl_readBlock.calls {k : Nat} {x0 : ByteArray}  {w : World} (htab : TabP w)  {r : Block × Bool} (H : impl_readBlock.f k x0 = some r) :
    Calls Tryd.prog 49 ([.string x0] : List Value).toArray w (fun e w_ => ∃ v, e = .returned v ∧ ∃ u0 : Value, v = (.tuple #[.agg #[.int .i64 r.1.fPrev, .int .i64 r.1.fHeight, .int .i64 r.1.fMiner, u0], .bool r.2]) ∧ Mem w [] w_ [own kInt 2 u0 r.1.fTxs]) := by
  have HM := Mem.start w
  refine calls_run (N := 50) Tryd.func49 rfl rfl rfl rfl ?_
  unfold impl_readBlock.f at H
  refine run_seq ?_
  refine run_region rfl ?_
  refine ops_does rfl (guard_none rfl) rfl rfl (does_alloc (cs := [.int .i64 0, .int .i64 0, .int .i64 0, .slice none 0 0]) rfl tz51 rfl HM) ?_
  rintro _ w1504 ⟨b1501, rfl, HM⟩
  refine ops_ex rfl (guard_none rfl) rfl rfl (ex_assign rfl rfl) ?_
  refine ops_nil ?_
  refine at_then ?_
  refine run_seq ?_
  obtain ⟨t1505, h1506, H⟩ := bind_some H
  refine run_region rfl ?_
  refine ops_ex rfl (guard_none rfl) rfl rfl (ex_move rfl rfl) ?_
  refine ops_does rfl (guard_none rfl) rfl rfl (does_callk rfl callok84 rfl (strings_Split.calls (x0 := x0) (x1 := (⟨#[32]⟩ : ByteArray)) (HM.tabP htab) h1506)) ?_
  rintro u1507 w1509 ⟨_, rfl, hn⟩
  replace HM : Mem w [] w1509 [own kStr 9 u1507 t1505, box b1501 51 [.int .i64 0, .int .i64 0, .int .i64 0, .slice none 0 0]] := HM.call hn
  refine ops_ex rfl (guard_none rfl) rfl rfl (ex_assign rfl rfl) ?_
  refine ops_nil ?_
  refine at_then ?_
  refine run_seq ?_
  refine run_seq ?_
  refine run_meet (fun ρ_ w_ => ρ_ = [(0, .string x0), (2, .pointer (some ⟨b1501, 0, none⟩)), (4, u1507), (15, .bool ((decide (300 < (x0.size : Int))) || ((t1505.length : Int) != 5)))] ∧ Mem w [] w_ [box b1501 51 [.int .i64 0, .int .i64 0, .int .i64 0, .slice none 0 0], own kStr 9 u1507 t1505]) ?_ ?_
  · skip
    refine run_region rfl ?_
    refine ops_ex rfl (guard_none rfl) rfl rfl (ex_move rfl rfl) ?_
    refine ops_ex rfl (guard_none rfl) rfl rfl (ex_strlen rfl rfl Tryd.underlying9) ?_
    refine ops_ex rfl (guard_none rfl) rfl rfl (ex_gtr rfl rfl rfl) ?_
    refine ops_ex rfl (guard_none rfl) rfl rfl (ex_move rfl rfl) ?_
    refine bool_cases (decide (300 < (x0.size : Int))) (fun hg1511 => ?_) (fun hg1511 => ?_)
    · skip
      refine ops_off rfl (guard_off rfl rfl rfl hg1511) rfl rfl ?_
      refine ops_off rfl (guard_off rfl rfl rfl hg1511) rfl rfl ?_
      refine ops_off rfl (guard_off rfl rfl rfl hg1511) rfl rfl ?_
      have hg1512 : ((decide (300 < (x0.size : Int))) || ((t1505.length : Int) != 5)) = true := by simp only [hg1511, Bool.and_true, Bool.true_and, Bool.and_false, Bool.false_and, Bool.or_true, Bool.true_or, Bool.or_false, Bool.false_or, Bool.not_true, Bool.not_false, Bool.not_not]
      refine ops_ex (v := .bool ((decide (300 < (x0.size : Int))) || ((t1505.length : Int) != 5))) rfl (guard_none rfl) rfl rfl (ex_por_t rfl rfl hg1511) ?_
      refine ops_nil ?_
      replace HM := HM.front 1 rfl rfl
      exact at_meet [(0, .string x0), (2, .pointer (some ⟨b1501, 0, none⟩)), (4, u1507), (15, .bool ((decide (300 < (x0.size : Int))) || ((t1505.length : Int) != 5)))] ⟨rfl, HM⟩ (Sub.cons rfl (Sub.cons rfl (Sub.cons rfl (Sub.cons rfl Sub.nil))))
    · skip
      refine ops_ex rfl (guard_on rfl rfl rfl hg1511) rfl rfl (ex_move rfl rfl) ?_
      refine ops_ex rfl (guard_on rfl rfl rfl hg1511) rfl rfl (ex_len (d := kStr) (xs := t1505) rfl rfl Tryd.underlying103 (HM.own_rd 0 rfl)) ?_
      refine ops_ex rfl (guard_on rfl rfl rfl hg1511) rfl rfl (ex_neq rfl rfl rfl) ?_
      refine ops_ex (v := .bool ((decide (300 < (x0.size : Int))) || ((t1505.length : Int) != 5))) rfl (guard_none rfl) rfl rfl (ex_por_f rfl rfl hg1511 rfl) ?_
      refine ops_nil ?_
      replace HM := HM.front 1 rfl rfl
      exact at_meet [(0, .string x0), (2, .pointer (some ⟨b1501, 0, none⟩)), (4, u1507), (15, .bool ((decide (300 < (x0.size : Int))) || ((t1505.length : Int) != 5)))] ⟨rfl, HM⟩ (Sub.cons rfl (Sub.cons rfl (Sub.cons rfl (Sub.cons rfl Sub.nil))))
  · rintro _ w1513 ⟨rfl, HM⟩
    refine at_then ?_
    refine run_cond (b := ((decide (300 < (x0.size : Int))) || ((t1505.length : Int) != 5))) rfl (fun hb1514 => ?_) (fun hb1514 => ?_)
    · replace H := cond_t hb1514 H
      refine run_seq ?_
      refine run_region rfl ?_
      refine ops_ex rfl (guard_none rfl) rfl rfl (ex_build (cells := #[(.int .i64 0), (.int .i64 0), (.int .i64 0), (.slice none 0 0)]) rfl rfl (by kernel_rfl)) ?_
      refine ops_doesS rfl (guard_none rfl) rfl (does_store (vs := [.int .i64 0, .int .i64 0, .int .i64 0, .slice none 0 0]) (cs' := [.int .i64 0, .int .i64 0, .int .i64 0, .slice none 0 0]) rfl rfl rfl rfl tsz51 (Ones.int (Ones.int (Ones.int (Ones.sl Ones.nil)))) rfl rfl HM) ?_
      rintro w1515 HM
      refine ops_ex rfl (guard_none rfl) rfl rfl (ex_assign rfl rfl) ?_
      refine ops_nil ?_
      refine at_then ?_
      refine run_ret ?_
      refine at_then_ret ?_
      replace HM := HM.empty kInt 2 none
      replace HM := (HM.front 2 rfl rfl).drop
      replace HM := HM.front 1 rfl rfl
      have hcb0 := HM.box_at 0 rfl
      replace HM := (HM.front 0 rfl rfl).drop
      have hR := Option.some.inj H
      subst hR
      exact at_retN1 rfl rfl rfl Tryd.underlying51 rfl tsz51 rfl hcb0 ⟨_, rfl, _, rfl, HM⟩
    · replace H := cond_f hb1514 H
      refine run_skip ?_
      refine at_then ?_
      refine run_seq ?_
      obtain ⟨e1517, H⟩ := chk_some H
      obtain ⟨e1518, H⟩ := chk_some H
      obtain ⟨e1519, H⟩ := chk_some H
      obtain ⟨t1520, h1521, H⟩ := bind_some H
      obtain ⟨t1522, h1523, H⟩ := bind_some H
      obtain ⟨t1524, h1525, H⟩ := bind_some H
      refine run_meet (fun ρ_ w_ => ∃ b1526 : Nat, ρ_ = [(0, .string x0), (2, .pointer (some ⟨b1501, 0, none⟩)), (4, u1507), (5, .pointer (some ⟨b1526, 0, none⟩))] ∧ Mem w [] w_ [box b1501 51 [.int .i64 0, .int .i64 0, .int .i64 0, .slice none 0 0], own kStr 9 u1507 t1505, box b1526 51 [.int .i64 t1520, .int .i64 t1522, .int .i64 t1524, .slice none 0 0]]) ?_ ?_
      · skip
        refine run_draw (fun w_ => Mem w [] w_ [box b1501 51 [.int .i64 0, .int .i64 0, .int .i64 0, .slice none 0 0], own kStr 9 u1507 t1505]) mixed rfl (l := #[false, false, false, false, false, false, false, false, false, false, false, false, false, false, false]) rfl ?_
        replace HM := HM.grow (fr_drew _)
        have hS := Mem.suf (M := []) HM
        refine drw_take (i := 0) (l' := #[true, false, false, false, false, false, false, false, false, false, false, false, false, false, false]) rfl (guard_none rfl) rfl rfl (by kernel_rfl) (fun w_ hS_ => (ex_move rfl rfl)) hS ?_
        refine drw_take (i := 1) (l' := #[true, true, false, false, false, false, false, false, false, false, false, false, false, false, false]) rfl (guard_none rfl) rfl rfl (by kernel_rfl) (fun w_ hS_ => (ex_indexAddr (d := kStr) rfl rfl rfl Tryd.underlying103 tsz9 (hS_.own_rd 1 rfl) (idx_lo e1517) (idx_hi e1517))) hS ?_
        refine drw_take (i := 2) (l' := #[true, true, true, false, false, false, false, false, false, false, false, false, false, false, false]) rfl (guard_none rfl) rfl rfl (by kernel_rfl) (fun w_ hS_ => (ex_load1 rfl rfl Tryd.underlying9 rfl ((rd_plain (hS_.own_rd 1 rfl) e1517) 0 _ rfl))) hS ?_
        refine drw_take (i := 4) (l' := #[true, true, true, false, true, false, false, false, false, false, false, false, false, false, false]) rfl (guard_none rfl) rfl rfl (by kernel_rfl) (fun w_ hS_ => (ex_move rfl rfl)) hS ?_
        refine drw_take (i := 5) (l' := #[true, true, true, false, true, true, false, false, false, false, false, false, false, false, false]) rfl (guard_none rfl) rfl rfl (by kernel_rfl) (fun w_ hS_ => (ex_indexAddr (d := kStr) rfl rfl rfl Tryd.underlying103 tsz9 (hS_.own_rd 1 rfl) (idx_lo e1518) (idx_hi e1518))) hS ?_
        refine drw_take (i := 6) (l' := #[true, true, true, false, true, true, true, false, false, false, false, false, false, false, false]) rfl (guard_none rfl) rfl rfl (by kernel_rfl) (fun w_ hS_ => (ex_load1 rfl rfl Tryd.underlying9 rfl ((rd_plain (hS_.own_rd 1 rfl) e1518) 0 _ rfl))) hS ?_
        refine drw_take (i := 8) (l' := #[true, true, true, false, true, true, true, false, true, false, false, false, false, false, false]) rfl (guard_none rfl) rfl rfl (by kernel_rfl) (fun w_ hS_ => (ex_move rfl rfl)) hS ?_
        refine drw_take (i := 9) (l' := #[true, true, true, false, true, true, true, false, true, true, false, false, false, false, false]) rfl (guard_none rfl) rfl rfl (by kernel_rfl) (fun w_ hS_ => (ex_indexAddr (d := kStr) rfl rfl rfl Tryd.underlying103 tsz9 (hS_.own_rd 1 rfl) (idx_lo e1519) (idx_hi e1519))) hS ?_
        refine drw_take (i := 10) (l' := #[true, true, true, false, true, true, true, false, true, true, true, false, false, false, false]) rfl (guard_none rfl) rfl rfl (by kernel_rfl) (fun w_ hS_ => (ex_load1 rfl rfl Tryd.underlying9 rfl ((rd_plain (hS_.own_rd 1 rfl) e1519) 0 _ rfl))) hS ?_
        refine drw_any [3, 13] (by kernel_rfl) rfl (.cons ?_ (.cons ?_ .nil))
        · skip
          refine br_does (l' := #[true, true, true, true, true, true, true, false, true, true, true, false, false, false, false]) rfl (guard_none rfl) rfl rfl (by kernel_rfl) (does_callk rfl callok85 rfl (impl_number.calls (x0 := (gt t1505 (1 : Int))) (HM.tabP htab) h1521)) ?_
          rintro _ w1529 ⟨rfl, hn⟩
          replace HM : Mem w [] w1529 [box b1501 51 [.int .i64 0, .int .i64 0, .int .i64 0, .slice none 0 0], own kStr 9 u1507 t1505] := HM.call hn
          refine ⟨Mem.suf (M := []) HM, ?_⟩
          have hS := Mem.suf (M := []) HM
          refine drw_any [7, 13] (by kernel_rfl) rfl (.cons ?_ (.cons ?_ .nil))
          · skip
            refine br_does (l' := #[true, true, true, true, true, true, true, true, true, true, true, false, false, false, false]) rfl (guard_none rfl) rfl rfl (by kernel_rfl) (does_callk rfl callok85 rfl (impl_number.calls (x0 := (gt t1505 (2 : Int))) (HM.tabP htab) h1523)) ?_
            rintro _ w1530 ⟨rfl, hn⟩
            replace HM : Mem w [] w1530 [box b1501 51 [.int .i64 0, .int .i64 0, .int .i64 0, .slice none 0 0], own kStr 9 u1507 t1505] := HM.call hn
            refine ⟨Mem.suf (M := []) HM, ?_⟩
            have hS := Mem.suf (M := []) HM
            refine drw_any [11, 13] (by kernel_rfl) rfl (.cons ?_ (.cons ?_ .nil))
            · skip
              refine br_does (l' := #[true, true, true, true, true, true, true, true, true, true, true, true, false, false, false]) rfl (guard_none rfl) rfl rfl (by kernel_rfl) (does_callk rfl callok85 rfl (impl_number.calls (x0 := (gt t1505 (3 : Int))) (HM.tabP htab) h1525)) ?_
              rintro _ w1531 ⟨rfl, hn⟩
              replace HM : Mem w [] w1531 [box b1501 51 [.int .i64 0, .int .i64 0, .int .i64 0, .slice none 0 0], own kStr 9 u1507 t1505] := HM.call hn
              refine ⟨Mem.suf (M := []) HM, ?_⟩
              have hS := Mem.suf (M := []) HM
              refine drw_take (i := 12) (l' := #[true, true, true, true, true, true, true, true, true, true, true, true, true, false, false]) rfl (guard_none rfl) rfl rfl (by kernel_rfl) (fun w_ hS_ => (ex_build (cells := #[(.int .i64 t1520), (.int .i64 t1522), (.int .i64 t1524), (.slice none 0 0)]) rfl rfl (by kernel_rfl))) hS ?_
              refine drw_any [13] (by kernel_rfl) rfl (.cons ?_ .nil)
              refine br_does (l' := #[true, true, true, true, true, true, true, true, true, true, true, true, true, true, false]) rfl (guard_none rfl) rfl rfl (by kernel_rfl) (does_alloc (cs := [.int .i64 0, .int .i64 0, .int .i64 0, .slice none 0 0]) rfl tz51 rfl HM) ?_
              rintro _ w1532 ⟨b1526, rfl, HM⟩
              refine ⟨Mem.suf (M := [box b1526 51 [.int .i64 0, .int .i64 0, .int .i64 0, .slice none 0 0]]) HM, ?_⟩
              have hS := Mem.suf (M := [box b1526 51 [.int .i64 0, .int .i64 0, .int .i64 0, .slice none 0 0]]) HM
              refine drw_any [14] (by kernel_rfl) rfl (.cons ?_ .nil)
              refine br_doesS (l' := #[true, true, true, true, true, true, true, true, true, true, true, true, true, true, true]) rfl (guard_none rfl) rfl (by kernel_rfl) (does_store (vs := [.int .i64 t1520, .int .i64 t1522, .int .i64 t1524, .slice none 0 0]) (cs' := [.int .i64 t1520, .int .i64 t1522, .int .i64 t1524, .slice none 0 0]) rfl rfl rfl rfl tsz51 (Ones.int (Ones.int (Ones.int (Ones.sl Ones.nil)))) rfl rfl HM) ?_
              rintro w1533 HM
              refine ⟨Mem.suf (M := [box b1526 51 [.int .i64 t1520, .int .i64 t1522, .int .i64 t1524, .slice none 0 0]]) HM, ?_⟩
              have hS := Mem.suf (M := [box b1526 51 [.int .i64 t1520, .int .i64 t1522, .int .i64 t1524, .slice none 0 0]]) HM
              refine drw_done (by kernel_rfl) ?_
              replace HM := HM.front 2 rfl rfl
              replace HM := HM.front 2 rfl rfl
              exact at_meet [(0, .string x0), (2, .pointer (some ⟨b1501, 0, none⟩)), (4, u1507), (5, .pointer (some ⟨b1526, 0, none⟩))] ⟨_, rfl, HM⟩ (Sub.cons rfl (Sub.cons rfl (Sub.cons rfl (Sub.cons rfl Sub.nil))))
            · skip
              refine br_does (l' := #[true, true, true, true, true, true, true, true, true, true, true, false, false, true, false]) rfl (guard_none rfl) rfl rfl (by kernel_rfl) (does_alloc (cs := [.int .i64 0, .int .i64 0, .int .i64 0, .slice none 0 0]) rfl tz51 rfl HM) ?_
              rintro _ w1534 ⟨b1526, rfl, HM⟩
              refine ⟨Mem.suf (M := [box b1526 51 [.int .i64 0, .int .i64 0, .int .i64 0, .slice none 0 0]]) HM, ?_⟩
              have hS := Mem.suf (M := [box b1526 51 [.int .i64 0, .int .i64 0, .int .i64 0, .slice none 0 0]]) HM
              refine drw_any [11] (by kernel_rfl) rfl (.cons ?_ .nil)
              refine br_does (l' := #[true, true, true, true, true, true, true, true, true, true, true, true, false, true, false]) rfl (guard_none rfl) rfl rfl (by kernel_rfl) (does_callk rfl callok85 rfl (impl_number.calls (x0 := (gt t1505 (3 : Int))) (HM.tabP htab) h1525)) ?_
              rintro _ w1535 ⟨rfl, hn⟩
              replace HM : Mem w [] w1535 [box b1526 51 [.int .i64 0, .int .i64 0, .int .i64 0, .slice none 0 0], box b1501 51 [.int .i64 0, .int .i64 0, .int .i64 0, .slice none 0 0], own kStr 9 u1507 t1505] := HM.call hn
              refine ⟨Mem.suf (M := [box b1526 51 [.int .i64 0, .int .i64 0, .int .i64 0, .slice none 0 0]]) HM, ?_⟩
              have hS := Mem.suf (M := [box b1526 51 [.int .i64 0, .int .i64 0, .int .i64 0, .slice none 0 0]]) HM
              refine drw_take (i := 12) (l' := #[true, true, true, true, true, true, true, true, true, true, true, true, true, true, false]) rfl (guard_none rfl) rfl rfl (by kernel_rfl) (fun w_ hS_ => (ex_build (cells := #[(.int .i64 t1520), (.int .i64 t1522), (.int .i64 t1524), (.slice none 0 0)]) rfl rfl (by kernel_rfl))) hS ?_
              refine drw_any [14] (by kernel_rfl) rfl (.cons ?_ .nil)
              refine br_doesS (l' := #[true, true, true, true, true, true, true, true, true, true, true, true, true, true, true]) rfl (guard_none rfl) rfl (by kernel_rfl) (does_store (vs := [.int .i64 t1520, .int .i64 t1522, .int .i64 t1524, .slice none 0 0]) (cs' := [.int .i64 t1520, .int .i64 t1522, .int .i64 t1524, .slice none 0 0]) rfl rfl rfl rfl tsz51 (Ones.int (Ones.int (Ones.int (Ones.sl Ones.nil)))) rfl rfl HM) ?_
              rintro w1536 HM
              refine ⟨Mem.suf (M := [box b1526 51 [.int .i64 t1520, .int .i64 t1522, .int .i64 t1524, .slice none 0 0]]) HM, ?_⟩
              have hS := Mem.suf (M := [box b1526 51 [.int .i64 t1520, .int .i64 t1522, .int .i64 t1524, .slice none 0 0]]) HM
              refine drw_done (by kernel_rfl) ?_
              replace HM := HM.front 2 rfl rfl
              replace HM := HM.front 2 rfl rfl
              exact at_meet [(0, .string x0), (2, .pointer (some ⟨b1501, 0, none⟩)), (4, u1507), (5, .pointer (some ⟨b1526, 0, none⟩))] ⟨_, rfl, HM⟩ (Sub.cons rfl (Sub.cons rfl (Sub.cons rfl (Sub.cons rfl Sub.nil))))
          · skip
            refine br_does (l' := #[true, true, true, true, true, true, true, false, true, true, true, false, false, true, false]) rfl (guard_none rfl) rfl rfl (by kernel_rfl) (does_alloc (cs := [.int .i64 0, .int .i64 0, .int .i64 0, .slice none 0 0]) rfl tz51 rfl HM) ?_
            rintro _ w1537 ⟨b1526, rfl, HM⟩
            refine ⟨Mem.suf (M := [box b1526 51 [.int .i64 0, .int .i64 0, .int .i64 0, .slice none 0 0]]) HM, ?_⟩
            have hS := Mem.suf (M := [box b1526 51 [.int .i64 0, .int .i64 0, .int .i64 0, .slice none 0 0]]) HM
            refine drw_any [7] (by kernel_rfl) rfl (.cons ?_ .nil)
            refine br_does (l' := #[true, true, true, true, true, true, true, true, true, true, true, false, false, true, false]) rfl (guard_none rfl) rfl rfl (by kernel_rfl) (does_callk rfl callok85 rfl (impl_number.calls (x0 := (gt t1505 (2 : Int))) (HM.tabP htab) h1523)) ?_
            rintro _ w1538 ⟨rfl, hn⟩
            replace HM : Mem w [] w1538 [box b1526 51 [.int .i64 0, .int .i64 0, .int .i64 0, .slice none 0 0], box b1501 51 [.int .i64 0, .int .i64 0, .int .i64 0, .slice none 0 0], own kStr 9 u1507 t1505] := HM.call hn
            refine ⟨Mem.suf (M := [box b1526 51 [.int .i64 0, .int .i64 0, .int .i64 0, .slice none 0 0]]) HM, ?_⟩
            have hS := Mem.suf (M := [box b1526 51 [.int .i64 0, .int .i64 0, .int .i64 0, .slice none 0 0]]) HM
            refine drw_any [11] (by kernel_rfl) rfl (.cons ?_ .nil)
            refine br_does (l' := #[true, true, true, true, true, true, true, true, true, true, true, true, false, true, false]) rfl (guard_none rfl) rfl rfl (by kernel_rfl) (does_callk rfl callok85 rfl (impl_number.calls (x0 := (gt t1505 (3 : Int))) (HM.tabP htab) h1525)) ?_
            rintro _ w1539 ⟨rfl, hn⟩
            replace HM : Mem w [] w1539 [box b1526 51 [.int .i64 0, .int .i64 0, .int .i64 0, .slice none 0 0], box b1501 51 [.int .i64 0, .int .i64 0, .int .i64 0, .slice none 0 0], own kStr 9 u1507 t1505] := HM.call hn
            refine ⟨Mem.suf (M := [box b1526 51 [.int .i64 0, .int .i64 0, .int .i64 0, .slice none 0 0]]) HM, ?_⟩
            have hS := Mem.suf (M := [box b1526 51 [.int .i64 0, .int .i64 0, .int .i64 0, .slice none 0 0]]) HM
            refine drw_take (i := 12) (l' := #[true, true, true, true, true, true, true, true, true, true, true, true, true, true, false]) rfl (guard_none rfl) rfl rfl (by kernel_rfl) (fun w_ hS_ => (ex_build (cells := #[(.int .i64 t1520), (.int .i64 t1522), (.int .i64 t1524), (.slice none 0 0)]) rfl rfl (by kernel_rfl))) hS ?_
            refine drw_any [14] (by kernel_rfl) rfl (.cons ?_ .nil)
            refine br_doesS (l' := #[true, true, true, true, true, true, true, true, true, true, true, true, true, true, true]) rfl (guard_none rfl) rfl (by kernel_rfl) (does_store (vs := [.int .i64 t1520, .int .i64 t1522, .int .i64 t1524, .slice none 0 0]) (cs' := [.int .i64 t1520, .int .i64 t1522, .int .i64 t1524, .slice none 0 0]) rfl rfl rfl rfl tsz51 (Ones.int (Ones.int (Ones.int (Ones.sl Ones.nil)))) rfl rfl HM) ?_
            rintro w1540 HM
            refine ⟨Mem.suf (M := [box b1526 51 [.int .i64 t1520, .int .i64 t1522, .int .i64 t1524, .slice none 0 0]]) HM, ?_⟩
            have hS := Mem.suf (M := [box b1526 51 [.int .i64 t1520, .int .i64 t1522, .int .i64 t1524, .slice none 0 0]]) HM
            refine drw_done (by kernel_rfl) ?_
            replace HM := HM.front 2 rfl rfl
            replace HM := HM.front 2 rfl rfl
            exact at_meet [(0, .string x0), (2, .pointer (some ⟨b1501, 0, none⟩)), (4, u1507), (5, .pointer (some ⟨b1526, 0, none⟩))] ⟨_, rfl, HM⟩ (Sub.cons rfl (Sub.cons rfl (Sub.cons rfl (Sub.cons rfl Sub.nil))))
        · skip
          refine br_does (l' := #[true, true, true, false, true, true, true, false, true, true, true, false, false, true, false]) rfl (guard_none rfl) rfl rfl (by kernel_rfl) (does_alloc (cs := [.int .i64 0, .int .i64 0, .int .i64 0, .slice none 0 0]) rfl tz51 rfl HM) ?_
          rintro _ w1541 ⟨b1526, rfl, HM⟩
          refine ⟨Mem.suf (M := [box b1526 51 [.int .i64 0, .int .i64 0, .int .i64 0, .slice none 0 0]]) HM, ?_⟩
          have hS := Mem.suf (M := [box b1526 51 [.int .i64 0, .int .i64 0, .int .i64 0, .slice none 0 0]]) HM
          refine drw_any [3] (by kernel_rfl) rfl (.cons ?_ .nil)
          refine br_does (l' := #[true, true, true, true, true, true, true, false, true, true, true, false, false, true, false]) rfl (guard_none rfl) rfl rfl (by kernel_rfl) (does_callk rfl callok85 rfl (impl_number.calls (x0 := (gt t1505 (1 : Int))) (HM.tabP htab) h1521)) ?_
          rintro _ w1542 ⟨rfl, hn⟩
          replace HM : Mem w [] w1542 [box b1526 51 [.int .i64 0, .int .i64 0, .int .i64 0, .slice none 0 0], box b1501 51 [.int .i64 0, .int .i64 0, .int .i64 0, .slice none 0 0], own kStr 9 u1507 t1505] := HM.call hn
          refine ⟨Mem.suf (M := [box b1526 51 [.int .i64 0, .int .i64 0, .int .i64 0, .slice none 0 0]]) HM, ?_⟩
          have hS := Mem.suf (M := [box b1526 51 [.int .i64 0, .int .i64 0, .int .i64 0, .slice none 0 0]]) HM
          refine drw_any [7] (by kernel_rfl) rfl (.cons ?_ .nil)
          refine br_does (l' := #[true, true, true, true, true, true, true, true, true, true, true, false, false, true, false]) rfl (guard_none rfl) rfl rfl (by kernel_rfl) (does_callk rfl callok85 rfl (impl_number.calls (x0 := (gt t1505 (2 : Int))) (HM.tabP htab) h1523)) ?_
          rintro _ w1543 ⟨rfl, hn⟩
          replace HM : Mem w [] w1543 [box b1526 51 [.int .i64 0, .int .i64 0, .int .i64 0, .slice none 0 0], box b1501 51 [.int .i64 0, .int .i64 0, .int .i64 0, .slice none 0 0], own kStr 9 u1507 t1505] := HM.call hn
          refine ⟨Mem.suf (M := [box b1526 51 [.int .i64 0, .int .i64 0, .int .i64 0, .slice none 0 0]]) HM, ?_⟩
          have hS := Mem.suf (M := [box b1526 51 [.int .i64 0, .int .i64 0, .int .i64 0, .slice none 0 0]]) HM
          refine drw_any [11] (by kernel_rfl) rfl (.cons ?_ .nil)
          refine br_does (l' := #[true, true, true, true, true, true, true, true, true, true, true, true, false, true, false]) rfl (guard_none rfl) rfl rfl (by kernel_rfl) (does_callk rfl callok85 rfl (impl_number.calls (x0 := (gt t1505 (3 : Int))) (HM.tabP htab) h1525)) ?_
          rintro _ w1544 ⟨rfl, hn⟩
          replace HM : Mem w [] w1544 [box b1526 51 [.int .i64 0, .int .i64 0, .int .i64 0, .slice none 0 0], box b1501 51 [.int .i64 0, .int .i64 0, .int .i64 0, .slice none 0 0], own kStr 9 u1507 t1505] := HM.call hn
          refine ⟨Mem.suf (M := [box b1526 51 [.int .i64 0, .int .i64 0, .int .i64 0, .slice none 0 0]]) HM, ?_⟩
          have hS := Mem.suf (M := [box b1526 51 [.int .i64 0, .int .i64 0, .int .i64 0, .slice none 0 0]]) HM
          refine drw_take (i := 12) (l' := #[true, true, true, true, true, true, true, true, true, true, true, true, true, true, false]) rfl (guard_none rfl) rfl rfl (by kernel_rfl) (fun w_ hS_ => (ex_build (cells := #[(.int .i64 t1520), (.int .i64 t1522), (.int .i64 t1524), (.slice none 0 0)]) rfl rfl (by kernel_rfl))) hS ?_
          refine drw_any [14] (by kernel_rfl) rfl (.cons ?_ .nil)
          refine br_doesS (l' := #[true, true, true, true, true, true, true, true, true, true, true, true, true, true, true]) rfl (guard_none rfl) rfl (by kernel_rfl) (does_store (vs := [.int .i64 t1520, .int .i64 t1522, .int .i64 t1524, .slice none 0 0]) (cs' := [.int .i64 t1520, .int .i64 t1522, .int .i64 t1524, .slice none 0 0]) rfl rfl rfl rfl tsz51 (Ones.int (Ones.int (Ones.int (Ones.sl Ones.nil)))) rfl rfl HM) ?_
          rintro w1545 HM
          refine ⟨Mem.suf (M := [box b1526 51 [.int .i64 t1520, .int .i64 t1522, .int .i64 t1524, .slice none 0 0]]) HM, ?_⟩
          have hS := Mem.suf (M := [box b1526 51 [.int .i64 t1520, .int .i64 t1522, .int .i64 t1524, .slice none 0 0]]) HM
          refine drw_done (by kernel_rfl) ?_
          replace HM := HM.front 2 rfl rfl
          replace HM := HM.front 2 rfl rfl
          exact at_meet [(0, .string x0), (2, .pointer (some ⟨b1501, 0, none⟩)), (4, u1507), (5, .pointer (some ⟨b1526, 0, none⟩))] ⟨_, rfl, HM⟩ (Sub.cons rfl (Sub.cons rfl (Sub.cons rfl (Sub.cons rfl Sub.nil))))
      · rintro _ w1546 ⟨b1526, rfl, HM⟩
        refine at_then ?_
        obtain ⟨o1564, ho1565, H⟩ := bind_some H
        refine run_mid (fun ρ_ w_ => ∃ v1561 : Value, ∃ a1562 : List Int, a1562 = o1564 ∧ ρ_ = [(0, .string x0), (2, .pointer (some ⟨b1501, 0, none⟩)), (5, .pointer (some ⟨b1526, 0, none⟩))] ∧ Mem w [] w_ [box b1501 51 [.int .i64 0, .int .i64 0, .int .i64 0, .slice none 0 0], box b1526 51 [.int .i64 t1520, .int .i64 t1522, .int .i64 t1524, v1561], own kInt 2 v1561 a1562]) ?_ ?_
        · clear H
          refine run_seq ?_
          obtain ⟨e1566, ho1565⟩ := chk_some ho1565
          refine run_region rfl ?_
          refine ops_ex rfl (guard_none rfl) rfl rfl (ex_move rfl rfl) ?_
          refine ops_ex rfl (guard_none rfl) rfl rfl (ex_indexAddr (d := kStr) rfl rfl rfl Tryd.underlying103 tsz9 (HM.own_rd 1 rfl) (idx_lo e1566) (idx_hi e1566)) ?_
          refine ops_ex rfl (guard_none rfl) rfl rfl (ex_load1 rfl rfl Tryd.underlying9 rfl ((rd_plain (HM.own_rd 1 rfl) e1566) 0 _ rfl)) ?_
          refine ops_ex rfl (guard_none rfl) rfl rfl (ex_sneq rfl rfl rfl) ?_
          refine ops_nil ?_
          refine at_then ?_
          refine run_cond (b := (!sEq (gt t1505 (4 : Int)) (⟨#[45]⟩ : ByteArray))) rfl (fun hb1567 => ?_) (fun hb1567 => ?_)
          · replace ho1565 := cond_t hb1567 ho1565
            obtain ⟨e1568, ho1565⟩ := chk_some ho1565
            obtain ⟨t1569, h1570, ho1565⟩ := bind_some ho1565
            refine run_region rfl ?_
            refine ops_ex rfl (guard_none rfl) rfl rfl (ex_move rfl rfl) ?_
            refine ops_ex rfl (guard_none rfl) rfl rfl (ex_indexAddr (d := kStr) rfl rfl rfl Tryd.underlying103 tsz9 (HM.own_rd 1 rfl) (idx_lo e1568) (idx_hi e1568)) ?_
            refine ops_ex rfl (guard_none rfl) rfl rfl (ex_load1 rfl rfl Tryd.underlying9 rfl ((rd_plain (HM.own_rd 1 rfl) e1568) 0 _ rfl)) ?_
            refine ops_does rfl (guard_none rfl) rfl rfl (does_callk rfl callok86 rfl (impl_numbers.calls (x0 := (gt t1505 (4 : Int))) (x1 := (⟨#[43]⟩ : ByteArray)) (HM.tabP htab) h1570)) ?_
            rintro u1571 w1573 ⟨_, rfl, hn⟩
            replace HM : Mem w [] w1573 [own kInt 2 u1571 t1569, box b1501 51 [.int .i64 0, .int .i64 0, .int .i64 0, .slice none 0 0], own kStr 9 u1507 t1505, box b1526 51 [.int .i64 t1520, .int .i64 t1522, .int .i64 t1524, .slice none 0 0]] := HM.call hn
            refine ops_ex rfl (guard_none rfl) rfl rfl (ex_fieldAddr (off' := 3) rfl rfl Tryd.underlying51 rfl tsz38 rfl) ?_
            replace HM := HM.front 3 rfl rfl
            refine ops_doesS rfl (guard_none rfl) rfl (does_store (vs := [u1571]) (cs' := [.int .i64 t1520, .int .i64 t1522, .int .i64 t1524, u1571]) rfl rfl rfl (rd_cells (HM.own_rd 1 rfl)) tsz38 (Ones.rd (HM.own_rd 1 rfl) Ones.nil) rfl rfl HM) ?_
            rintro w1574 HM
            refine ops_nil ?_
            replace HM := (HM.front 3 rfl rfl).drop
            replace HM := HM.front 1 rfl rfl
            replace HM := HM.front 1 rfl rfl
            replace HM := HM.front 2 rfl rfl
            exact at_mid (ρ' := [(0, .string x0), (2, .pointer (some ⟨b1501, 0, none⟩)), (5, .pointer (some ⟨b1526, 0, none⟩))]) ⟨_, _, (Option.some.inj ho1565), rfl, HM⟩ (Sub.cons rfl (Sub.cons rfl (Sub.cons rfl Sub.nil)))
          · replace ho1565 := cond_f hb1567 ho1565
            refine run_skip ?_
            replace HM := HM.empty kInt 2 none
            replace HM := (HM.front 2 rfl rfl).drop
            replace HM := HM.front 2 rfl rfl
            replace HM := HM.front 2 rfl rfl
            exact at_mid (ρ' := [(0, .string x0), (2, .pointer (some ⟨b1501, 0, none⟩)), (5, .pointer (some ⟨b1526, 0, none⟩))]) ⟨_, _, (Option.some.inj ho1565), rfl, HM⟩ (Sub.cons rfl (Sub.cons rfl (Sub.cons rfl Sub.nil)))
        · rintro _ w1576 ⟨v1561, a1562, rfl, rfl, HM⟩
          refine run_seq ?_
          refine run_seq ?_
          obtain ⟨t1577, h1578, H⟩ := bind_some H
          obtain ⟨t1579, h1580, H⟩ := bind_some H
          refine run_meet (fun ρ_ w_ => ρ_ = [(2, .pointer (some ⟨b1501, 0, none⟩)), (5, .pointer (some ⟨b1526, 0, none⟩)), (47, .bool ((t1577 != 0) || (!sEq t1579 x0)))] ∧ Mem w [] w_ [box b1501 51 [.int .i64 0, .int .i64 0, .int .i64 0, .slice none 0 0], box b1526 51 [.int .i64 t1520, .int .i64 t1522, .int .i64 t1524, v1561], own kInt 2 v1561 a1562]) ?_ ?_
          · skip
            refine run_region rfl ?_
            refine ops_ex rfl (guard_none rfl) rfl rfl (ex_loadN (cs := [(.int .i64 t1520), (.int .i64 t1522), (.int .i64 t1524), v1561]) rfl rfl Tryd.underlying51 rfl tsz51 rfl ((HM.box_at 1 rfl).sub 0 4 rfl)) ?_
            refine ops_does rfl (guard_none rfl) rfl rfl (does_callk rfl callok24 rfl (impl_BlockFault.calls (x0 := (⟨t1520, t1522, t1524, a1562⟩ : Block)) (HM.own_rd 2 rfl) h1578)) ?_
            rintro _ w1581 ⟨rfl, hn⟩
            replace HM : Mem w [] w1581 [box b1501 51 [.int .i64 0, .int .i64 0, .int .i64 0, .slice none 0 0], box b1526 51 [.int .i64 t1520, .int .i64 t1522, .int .i64 t1524, v1561], own kInt 2 v1561 a1562] := HM.call hn
            refine ops_ex rfl (guard_none rfl) rfl rfl (ex_neq rfl rfl rfl) ?_
            refine ops_ex rfl (guard_none rfl) rfl rfl (ex_move rfl rfl) ?_
            refine bool_cases (t1577 != 0) (fun hg1582 => ?_) (fun hg1582 => ?_)
            · skip
              refine ops_off rfl (guard_off rfl rfl rfl hg1582) rfl rfl ?_
              refine ops_off rfl (guard_off rfl rfl rfl hg1582) rfl rfl ?_
              refine ops_off rfl (guard_off rfl rfl rfl hg1582) rfl rfl ?_
              refine ops_off rfl (guard_off rfl rfl rfl hg1582) rfl rfl ?_
              have hg1583 : ((t1577 != 0) || (!sEq t1579 x0)) = true := by simp only [hg1582, Bool.and_true, Bool.true_and, Bool.and_false, Bool.false_and, Bool.or_true, Bool.true_or, Bool.or_false, Bool.false_or, Bool.not_true, Bool.not_false, Bool.not_not]
              refine ops_ex (v := .bool ((t1577 != 0) || (!sEq t1579 x0))) rfl (guard_none rfl) rfl rfl (ex_por_t rfl rfl hg1582) ?_
              refine ops_nil ?_
              exact at_meet [(2, .pointer (some ⟨b1501, 0, none⟩)), (5, .pointer (some ⟨b1526, 0, none⟩)), (47, .bool ((t1577 != 0) || (!sEq t1579 x0)))] ⟨rfl, HM⟩ (Sub.cons rfl (Sub.cons rfl (Sub.cons rfl Sub.nil)))
            · skip
              refine ops_ex rfl (guard_on rfl rfl rfl hg1582) rfl rfl (ex_loadN (cs := [(.int .i64 t1520), (.int .i64 t1522), (.int .i64 t1524), v1561]) rfl rfl Tryd.underlying51 rfl tsz51 rfl ((HM.box_at 1 rfl).sub 0 4 rfl)) ?_
              refine ops_does rfl (guard_on rfl rfl rfl hg1582) rfl rfl (does_callk rfl callok50 rfl (impl_blockText.calls (x0 := (⟨t1520, t1522, t1524, a1562⟩ : Block)) (HM.tabP htab) (HM.own_rd 2 rfl) (cond_t (not_mk hg1582) h1580))) ?_
              rintro _ w1584 ⟨rfl, hn⟩
              replace HM : Mem w [] w1584 [box b1501 51 [.int .i64 0, .int .i64 0, .int .i64 0, .slice none 0 0], box b1526 51 [.int .i64 t1520, .int .i64 t1522, .int .i64 t1524, v1561], own kInt 2 v1561 a1562] := HM.call hn
              refine ops_ex rfl (guard_on rfl rfl rfl hg1582) rfl rfl (ex_move rfl rfl) ?_
              refine ops_ex rfl (guard_on rfl rfl rfl hg1582) rfl rfl (ex_sneq rfl rfl rfl) ?_
              refine ops_ex (v := .bool ((t1577 != 0) || (!sEq t1579 x0))) rfl (guard_none rfl) rfl rfl (ex_por_f rfl rfl hg1582 rfl) ?_
              refine ops_nil ?_
              exact at_meet [(2, .pointer (some ⟨b1501, 0, none⟩)), (5, .pointer (some ⟨b1526, 0, none⟩)), (47, .bool ((t1577 != 0) || (!sEq t1579 x0)))] ⟨rfl, HM⟩ (Sub.cons rfl (Sub.cons rfl (Sub.cons rfl Sub.nil)))
          · rintro _ w1585 ⟨rfl, HM⟩
            refine at_then ?_
            refine run_cond (b := ((t1577 != 0) || (!sEq t1579 x0))) rfl (fun hb1586 => ?_) (fun hb1586 => ?_)
            · replace H := cond_t hb1586 H
              refine run_seq ?_
              refine run_region rfl ?_
              refine ops_ex rfl (guard_none rfl) rfl rfl (ex_build (cells := #[(.int .i64 0), (.int .i64 0), (.int .i64 0), (.slice none 0 0)]) rfl rfl (by kernel_rfl)) ?_
              refine ops_doesS rfl (guard_none rfl) rfl (does_store (vs := [.int .i64 0, .int .i64 0, .int .i64 0, .slice none 0 0]) (cs' := [.int .i64 0, .int .i64 0, .int .i64 0, .slice none 0 0]) rfl rfl rfl rfl tsz51 (Ones.int (Ones.int (Ones.int (Ones.sl Ones.nil)))) rfl rfl HM) ?_
              rintro w1587 HM
              refine ops_ex rfl (guard_none rfl) rfl rfl (ex_assign rfl rfl) ?_
              refine ops_nil ?_
              refine at_then ?_
              refine run_ret ?_
              refine at_then_ret ?_
              replace HM := HM.empty kInt 2 none
              replace HM := (HM.front 2 rfl rfl).drop
              replace HM := (HM.front 2 rfl rfl).drop
              replace HM := HM.front 1 rfl rfl
              have hcb0 := HM.box_at 0 rfl
              replace HM := (HM.front 0 rfl rfl).drop
              have hR := Option.some.inj H
              subst hR
              exact at_retN1 rfl rfl rfl Tryd.underlying51 rfl tsz51 rfl hcb0 ⟨_, rfl, _, rfl, HM⟩
            · replace H := cond_f hb1586 H
              refine run_skip ?_
              refine at_then ?_
              refine run_seq ?_
              refine run_region rfl ?_
              refine ops_ex rfl (guard_none rfl) rfl rfl (ex_loadN (cs := [(.int .i64 t1520), (.int .i64 t1522), (.int .i64 t1524), v1561]) rfl rfl Tryd.underlying51 rfl tsz51 rfl ((HM.box_at 1 rfl).sub 0 4 rfl)) ?_
              refine ops_doesS rfl (guard_none rfl) rfl (does_store (vs := [.int .i64 t1520, .int .i64 t1522, .int .i64 t1524, v1561]) (cs' := [.int .i64 t1520, .int .i64 t1522, .int .i64 t1524, v1561]) rfl rfl rfl rfl tsz51 (Ones.int (Ones.int (Ones.int (Ones.rd (HM.own_rd 2 rfl) Ones.nil)))) rfl rfl HM) ?_
              rintro w1589 HM
              refine ops_ex rfl (guard_none rfl) rfl rfl (ex_assign rfl rfl) ?_
              refine ops_nil ?_
              refine at_then ?_
              refine run_ret ?_
              replace HM := (HM.front 1 rfl rfl).drop
              have hcb0 := HM.box_at 0 rfl
              replace HM := (HM.front 0 rfl rfl).drop
              have hR := Option.some.inj H
              subst hR
              exact at_retN1 rfl rfl rfl Tryd.underlying51 rfl tsz51 rfl hcb0 ⟨_, rfl, _, rfl, HM⟩

def impl_ParseBlock.f (k : Nat) (x0 : ByteArray) : Option BlockResult := ((impl_readBlock.f k x0).bind fun t1602 => (bif !t1602.2 then some (⟨5, (⟨0, 0, 0, ([] : List Int)⟩ : Block)⟩ : BlockResult) else some (⟨0, (⟨t1602.1.fPrev, t1602.1.fHeight, t1602.1.fMiner, t1602.1.fTxs⟩ : Block)⟩ : BlockResult)))
theorem impl_ParseBlock.calls {k : Nat} {x0 : ByteArray}  {w : World} (htab : TabP w)  {r : BlockResult} (H : impl_ParseBlock.f k x0 = some r) :
    Calls Tryd.prog 19 ([.string x0] : List Value).toArray w (fun e w_ => ∃ v, e = .returned v ∧ ∃ u0 : Value, v = (.agg #[.int .i64 r.fCode, .int .i64 r.fBlock.fPrev, .int .i64 r.fBlock.fHeight, .int .i64 r.fBlock.fMiner, u0]) ∧ Mem w [] w_ [own kInt 2 u0 r.fBlock.fTxs]) := by
  have HM := Mem.start w
  refine calls_run (N := 15) Tryd.func19 rfl rfl rfl rfl ?_
  unfold impl_ParseBlock.f at H
  refine run_seq ?_
  refine run_region rfl ?_
  refine ops_does rfl (guard_none rfl) rfl rfl (does_alloc (cs := [.int .i64 0, .int .i64 0, .int .i64 0, .int .i64 0, .slice none 0 0]) rfl tz53 rfl HM) ?_
  rintro _ w1601 ⟨b1598, rfl, HM⟩
  refine ops_nil ?_
  refine at_then ?_
  refine run_seq ?_
  obtain ⟨t1602, h1603, H⟩ := bind_some H
  refine run_region rfl ?_
  refine ops_ex rfl (guard_none rfl) rfl rfl (ex_move rfl rfl) ?_
  refine ops_does rfl (guard_none rfl) rfl rfl (does_callk rfl callok49 rfl (impl_readBlock.calls (x0 := x0) (HM.tabP htab) h1603)) ?_
  rintro _ w1609 ⟨u1604, rfl, hn⟩
  replace HM : Mem w [] w1609 [own kInt 2 u1604 t1602.1.fTxs, box b1598 53 [.int .i64 0, .int .i64 0, .int .i64 0, .int .i64 0, .slice none 0 0]] := HM.call hn
  refine ops_ex rfl (guard_none rfl) rfl rfl (ex_move rfl rfl) ?_
  refine ops_ex rfl (guard_none rfl) rfl rfl (ex_extract rfl rfl rfl) ?_
  refine ops_ex rfl (guard_none rfl) rfl rfl (ex_extract rfl rfl rfl) ?_
  refine ops_does rfl (guard_none rfl) rfl rfl (does_alloc (cs := [.int .i64 0, .int .i64 0, .int .i64 0, .slice none 0 0]) rfl tz51 rfl HM) ?_
  rintro _ w1610 ⟨b1606, rfl, HM⟩
  refine ops_doesS rfl (guard_none rfl) rfl (does_store (vs := [.int .i64 t1602.1.fPrev, .int .i64 t1602.1.fHeight, .int .i64 t1602.1.fMiner, u1604]) (cs' := [.int .i64 t1602.1.fPrev, .int .i64 t1602.1.fHeight, .int .i64 t1602.1.fMiner, u1604]) rfl rfl rfl rfl tsz51 (Ones.int (Ones.int (Ones.int (Ones.rd (HM.own_rd 1 rfl) Ones.nil)))) rfl rfl HM) ?_
  rintro w1611 HM
  refine ops_ex rfl (guard_none rfl) rfl rfl (ex_assign rfl rfl) ?_
  refine ops_nil ?_
  refine at_then ?_
  refine run_seq ?_
  refine run_seq ?_
  refine run_region rfl ?_
  refine ops_ex rfl (guard_none rfl) rfl rfl (ex_move rfl rfl) ?_
  refine ops_ex rfl (guard_none rfl) rfl rfl (ex_not rfl rfl) ?_
  refine ops_nil ?_
  refine at_then ?_
  refine run_cond (b := !t1602.2) rfl (fun hb1612 => ?_) (fun hb1612 => ?_)
  · replace H := cond_t hb1612 H
    refine run_seq ?_
    refine run_region rfl ?_
    refine ops_ex rfl (guard_none rfl) rfl rfl (ex_build (cells := #[(.int .i64 5), (.int .i64 0), (.int .i64 0), (.int .i64 0), (.slice none 0 0)]) rfl rfl (by kernel_rfl)) ?_
    replace HM := HM.front 2 rfl rfl
    refine ops_doesS rfl (guard_none rfl) rfl (does_store (vs := [.int .i64 5, .int .i64 0, .int .i64 0, .int .i64 0, .slice none 0 0]) (cs' := [.int .i64 5, .int .i64 0, .int .i64 0, .int .i64 0, .slice none 0 0]) rfl rfl rfl rfl tsz53 (Ones.int (Ones.int (Ones.int (Ones.int (Ones.sl Ones.nil))))) rfl rfl HM) ?_
    rintro w1613 HM
    refine ops_nil ?_
    refine at_then ?_
    refine run_ret ?_
    refine at_then_ret ?_
    replace HM := HM.empty kInt 2 none
    replace HM := (HM.front 2 rfl rfl).drop
    replace HM := (HM.front 2 rfl rfl).drop
    replace HM := HM.front 1 rfl rfl
    have hcb0 := HM.box_at 0 rfl
    replace HM := (HM.front 0 rfl rfl).drop
    have hR := Option.some.inj H
    subst hR
    exact at_retN rfl rfl Tryd.underlying53 rfl tsz53 rfl hcb0 ⟨_, rfl, _, rfl, HM⟩
  · replace H := cond_f hb1612 H
    refine run_skip ?_
    refine at_then ?_
    refine run_seq ?_
    refine run_region rfl ?_
    refine ops_ex rfl (guard_none rfl) rfl rfl (ex_loadN (cs := [(.int .i64 t1602.1.fPrev), (.int .i64 t1602.1.fHeight), (.int .i64 t1602.1.fMiner), u1604]) rfl rfl Tryd.underlying51 rfl tsz51 rfl ((HM.box_at 0 rfl).sub 0 4 rfl)) ?_
    refine ops_ex rfl (guard_none rfl) rfl rfl (ex_build1 (fun u1604 => [(1, .agg #[(.int .i64 t1602.1.fPrev), (.int .i64 t1602.1.fHeight), (.int .i64 t1602.1.fMiner), u1604])]) (fun u1604 => #[.int .i64 0, .int .i64 t1602.1.fPrev, .int .i64 t1602.1.fHeight, .int .i64 t1602.1.fMiner, u1604]) rfl rfl (fun _ _ _ => by kernel_rfl) (HM.own_rd 1 rfl).isSl) ?_
    replace HM := HM.front 2 rfl rfl
    refine ops_doesS rfl (guard_none rfl) rfl (does_store (vs := [.int .i64 0, .int .i64 t1602.1.fPrev, .int .i64 t1602.1.fHeight, .int .i64 t1602.1.fMiner, u1604]) (cs' := [.int .i64 0, .int .i64 t1602.1.fPrev, .int .i64 t1602.1.fHeight, .int .i64 t1602.1.fMiner, u1604]) rfl rfl rfl rfl tsz53 (Ones.int (Ones.int (Ones.int (Ones.int (Ones.rd (HM.own_rd 2 rfl) Ones.nil))))) rfl rfl HM) ?_
    rintro w1615 HM
    refine ops_nil ?_
    refine at_then ?_
    refine run_ret ?_
    replace HM := (HM.front 1 rfl rfl).drop
    have hcb0 := HM.box_at 0 rfl
    replace HM := (HM.front 0 rfl rfl).drop
    have hR := Option.some.inj H
    subst hR
    exact at_retN rfl rfl Tryd.underlying53 rfl tsz53 rfl hcb0 ⟨_, rfl, _, rfl, HM⟩

def impl_BlockText.f (k : Nat) (x0 : Block) : Option TextResult := ((impl_BlockFault.f k x0).bind fun t1642 => (bif (t1642 != 0) then some (⟨t1642, (⟨#[]⟩ : ByteArray)⟩ : TextResult) else ((impl_blockText.f k x0).bind fun t1647 => some (⟨0, t1647⟩ : TextResult))))
theorem impl_BlockText.calls {k : Nat} {x0 : Block} {p0_0 : Value} {w : World} (htab : TabP w) (hp0_0 : RdS kInt w p0_0 x0.fTxs) {r : TextResult} (H : impl_BlockText.f k x0 = some r) :
    Calls Tryd.prog 20 ([.agg #[(.int .i64 x0.fPrev), (.int .i64 x0.fHeight), (.int .i64 x0.fMiner), p0_0]] : List Value).toArray w (fun e w_ => ∃ v, e = .returned v ∧ v = (.agg #[.int .i64 r.fCode, .string r.fText]) ∧ Mem w [] w_ []) := by
  have HM := Mem.start w
  refine calls_run (N := 13) Tryd.func20 rfl rfl rfl rfl ?_
  unfold impl_BlockText.f at H
  refine run_seq ?_
  refine run_region rfl ?_
  refine ops_does rfl (guard_none rfl) rfl rfl (does_box (cs := [.int .i64 x0.fPrev, .int .i64 x0.fHeight, .int .i64 x0.fMiner, p0_0]) rfl rfl rfl HM) ?_
  rintro _ w1640 ⟨b1634, rfl, HM⟩
  refine ops_does rfl (guard_none rfl) rfl rfl (does_alloc (cs := [.int .i64 0, .string (⟨#[]⟩ : ByteArray)]) rfl tz28 rfl HM) ?_
  rintro _ w1641 ⟨b1637, rfl, HM⟩
  refine ops_nil ?_
  refine at_then ?_
  refine run_seq ?_
  refine run_seq ?_
  obtain ⟨t1642, h1643, H⟩ := bind_some H
  refine run_region rfl ?_
  refine ops_ex rfl (guard_none rfl) rfl rfl (ex_loadN (cs := [(.int .i64 x0.fPrev), (.int .i64 x0.fHeight), (.int .i64 x0.fMiner), p0_0]) rfl rfl Tryd.underlying51 rfl tsz51 rfl ((HM.box_at 1 rfl).sub 0 4 rfl)) ?_
  refine ops_does rfl (guard_none rfl) rfl rfl (does_callk rfl callok24 rfl (impl_BlockFault.calls (x0 := x0) (HM.rd hp0_0) h1643)) ?_
  rintro _ w1644 ⟨rfl, hn⟩
  replace HM : Mem w [] w1644 [box b1637 28 [.int .i64 0, .string (⟨#[]⟩ : ByteArray)], box b1634 51 [.int .i64 x0.fPrev, .int .i64 x0.fHeight, .int .i64 x0.fMiner, p0_0]] := HM.call hn
  refine ops_ex rfl (guard_none rfl) rfl rfl (ex_assign rfl rfl) ?_
  refine ops_nil ?_
  refine at_then ?_
  refine run_seq ?_
  refine run_region rfl ?_
  refine ops_ex rfl (guard_none rfl) rfl rfl (ex_move rfl rfl) ?_
  refine ops_ex rfl (guard_none rfl) rfl rfl (ex_neq rfl rfl rfl) ?_
  refine ops_nil ?_
  refine at_then ?_
  refine run_cond (b := (t1642 != 0)) rfl (fun hb1645 => ?_) (fun hb1645 => ?_)
  · replace H := cond_t hb1645 H
    refine run_seq ?_
    refine run_region rfl ?_
    refine ops_ex rfl (guard_none rfl) rfl rfl (ex_move rfl rfl) ?_
    refine ops_ex rfl (guard_none rfl) rfl rfl (ex_build (cells := #[(.int .i64 t1642), (.string (⟨#[]⟩ : ByteArray))]) rfl rfl (by kernel_rfl)) ?_
    refine ops_doesS rfl (guard_none rfl) rfl (does_store (vs := [.int .i64 t1642, .string (⟨#[]⟩ : ByteArray)]) (cs' := [.int .i64 t1642, .string (⟨#[]⟩ : ByteArray)]) rfl rfl rfl rfl tsz28 (Ones.int (Ones.str Ones.nil)) rfl rfl HM) ?_
    rintro w1646 HM
    refine ops_nil ?_
    refine at_then ?_
    refine run_ret ?_
    refine at_then_ret ?_
    replace HM := (HM.front 1 rfl rfl).drop
    have hcb0 := HM.box_at 0 rfl
    replace HM := (HM.front 0 rfl rfl).drop
    have hR := Option.some.inj H
    subst hR
    exact at_retN rfl rfl Tryd.underlying28 rfl tsz28 rfl hcb0 ⟨_, rfl, rfl, HM⟩
  · replace H := cond_f hb1645 H
    refine run_skip ?_
    refine at_then ?_
    refine run_seq ?_
    obtain ⟨t1647, h1648, H⟩ := bind_some H
    refine run_region rfl ?_
    refine ops_ex rfl (guard_none rfl) rfl rfl (ex_loadN (cs := [(.int .i64 x0.fPrev), (.int .i64 x0.fHeight), (.int .i64 x0.fMiner), p0_0]) rfl rfl Tryd.underlying51 rfl tsz51 rfl ((HM.box_at 1 rfl).sub 0 4 rfl)) ?_
    refine ops_does rfl (guard_none rfl) rfl rfl (does_callk rfl callok50 rfl (impl_blockText.calls (x0 := x0) (HM.tabP htab) (HM.rd hp0_0) h1648)) ?_
    rintro _ w1649 ⟨rfl, hn⟩
    replace HM : Mem w [] w1649 [box b1637 28 [.int .i64 0, .string (⟨#[]⟩ : ByteArray)], box b1634 51 [.int .i64 x0.fPrev, .int .i64 x0.fHeight, .int .i64 x0.fMiner, p0_0]] := HM.call hn
    refine ops_ex rfl (guard_none rfl) rfl rfl (ex_build (cells := #[(.int .i64 0), (.string t1647)]) rfl rfl (by kernel_rfl)) ?_
    refine ops_doesS rfl (guard_none rfl) rfl (does_store (vs := [.int .i64 0, .string t1647]) (cs' := [.int .i64 0, .string t1647]) rfl rfl rfl rfl tsz28 (Ones.int (Ones.str Ones.nil)) rfl rfl HM) ?_
    rintro w1650 HM
    refine ops_nil ?_
    refine at_then ?_
    refine run_ret ?_
    replace HM := (HM.front 1 rfl rfl).drop
    have hcb0 := HM.box_at 0 rfl
    replace HM := (HM.front 0 rfl rfl).drop
    have hR := Option.some.inj H
    subst hR
    exact at_retN rfl rfl Tryd.underlying28 rfl tsz28 rfl hcb0 ⟨_, rfl, rfl, HM⟩
end Go.Proofs.YtcpacdbdehphkaaDoor.Zk
