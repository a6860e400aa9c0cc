/- What functions of the program compute, each as a plain function, and that they do. Conditions: as each theorem states them. -/
import Derived.Test.YtcpacdbdehphkaaDoorParseRuleZkF1
namespace Go.Proofs.YtcpacdbdehphkaaDoor.Zk
open Go Go.RowKit Go.IntWalk Go.Proofs
set_option linter.unusedVariables false
set_option linter.unusedSimpArgs false
set_option maxRecDepth 100000
set_option maxHeartbeats 4000000
def impl_joined.l0 (x0 : List Int) : Nat → (List ByteArray) → Int → Option ((List ByteArray))
  | 0, _, _ => none
  | k + 1, a1220, a1222 => (bif (decide (a1222 < (x0.length : Int))) then (chk (idxOk a1222 x0.length) ((impl_dec.f k (gt x0 a1222)).bind fun t1239 => (chk (leB ((a1220.length + ([t1239] : List ByteArray).length) * 16) 140737488355328) (impl_joined.l0 x0 k (a1220 ++ ([t1239] : List ByteArray)) (wrap64 (a1222 + 1)))))) else some a1220)
theorem impl_joined.l0_z (x0 : List Int) (a1220 : List ByteArray) (a1222 : Int) : impl_joined.l0 x0 0 a1220 a1222 = none := rfl
theorem impl_joined.l0_s (x0 : List Int) (k : Nat) (a1220 : List ByteArray) (a1222 : Int) : impl_joined.l0 x0 (k + 1) a1220 a1222 = (bif (decide (a1222 < (x0.length : Int))) then (chk (idxOk a1222 x0.length) ((impl_dec.f k (gt x0 a1222)).bind fun t1239 => (chk (leB ((a1220.length + ([t1239] : List ByteArray).length) * 16) 140737488355328) (impl_joined.l0 x0 k (a1220 ++ ([t1239] : List ByteArray)) (wrap64 (a1222 + 1)))))) else some a1220) := rfl
def impl_joined.f (k : Nat) (x0 : List Int) (x1 : ByteArray) : Option ByteArray := ((impl_joined.l0 x0 k ([] : List ByteArray) 0).bind (fun a1204 => ((strings_Join.f k a1204 x1).bind fun t1251 => some t1251)))
theorem impl_joined.calls {k : Nat} {x0 : List Int} {x1 : ByteArray} {p0 : Value} {w : World} (htab : TabP w) (hp0 : RdS kInt w p0 x0) {r : ByteArray} (H : impl_joined.f k x0 x1 = some r) :
    Calls Tryd.prog 92 ([p0, .string x1] : List Value).toArray w (fun e w_ => ∃ v, e = .returned v ∧ v = (.string r) ∧ Mem w [] w_ []) := by
  have HM := Mem.start w
  refine calls_run (N := 24) Tryd.func92 rfl rfl rfl rfl ?_
  unfold impl_joined.f at H
  refine run_seq ?_
  refine run_region rfl ?_
  refine ops_ex rfl (guard_none rfl) rfl rfl (ex_assign rfl rfl) ?_
  refine ops_nil ?_
  refine at_then ?_
  refine run_seq ?_
  refine run_region rfl ?_
  refine ops_does rfl (guard_none rfl) rfl rfl (does_lit (e := 9) (cs := []) (xs := ([] : List ByteArray)) kStr rfl rfl (fun _ => by kernel_rfl) rfl rfl (fun _ _ h => by have h' : _ = [] := h; subst h'; exact .nil) HM.emp) ?_
  rintro v1162 w1165 HM
  refine ops_ex rfl (guard_none rfl) rfl rfl (ex_assign rfl rfl) ?_
  refine ops_nil ?_
  refine at_then ?_
  obtain ⟨o1206, ho1207, H⟩ := bind_some H
  refine run_mid (fun ρ_ w_ => ∃ v1203 : Value, ∃ a1204 : List ByteArray, a1204 = o1206 ∧ ρ_ = [(1, .string x1), (5, v1203)] ∧ Mem w [] w_ [own kStr 9 v1203 a1204]) ?_ ?_
  · clear H
    refine run_seq ?_
    refine run_region rfl ?_
    refine ops_ex rfl (guard_none rfl) rfl rfl (ex_move rfl rfl) ?_
    refine ops_ex rfl (guard_none rfl) rfl rfl (ex_len (d := kInt) (xs := x0) rfl rfl Tryd.underlying38 hp0) ?_
    refine ops_ex rfl (guard_none rfl) rfl rfl (ex_move rfl rfl) ?_
    refine ops_nil ?_
    refine at_then ?_
    refine run_block ?_
    refine run_loop (fun k_ ρ_ w_ => ∃ v1219 : Value, ∃ a1220 : List ByteArray, ∃ a1222 : Int, impl_joined.l0 x0 k_ a1220 a1222 = some o1206 ∧ ρ_ = [(1, .string x1), (5, v1219), (9, p0), (10, .int .i64 (x0.length : Int)), (11, .int .i64 a1222)] ∧ Mem w [] w_ [own kStr 9 v1219 a1220]) k (ρ1 := [(1, .string x1), (5, v1162), (9, p0), (10, .int .i64 (x0.length : Int)), (11, .int .i64 0)]) ⟨_, _, _, ho1207, rfl, HM⟩ (Sub.cons rfl (Sub.cons rfl (Sub.cons rfl (Sub.cons rfl (Sub.cons rfl Sub.nil))))) ?_
    clear HM ho1207
    rintro k1234 _ w1235 ⟨v1219, a1220, a1222, ho1207, rfl, HM⟩
    obtain _ | k1234 := k1234
    · exact nomatch ((impl_joined.l0_z x0 a1220 a1222).symm.trans ho1207)
    replace ho1207 := (impl_joined.l0_s x0 k1234 a1220 a1222).symm.trans ho1207
    refine run_seq ?_
    refine run_region rfl ?_
    refine ops_ex rfl (guard_none rfl) rfl rfl (ex_lss rfl rfl rfl) ?_
    refine ops_nil ?_
    refine at_then ?_
    refine run_seq ?_
    refine run_cond (b := (decide (a1222 < (x0.length : Int)))) rfl (fun hb1236 => ?_) (fun hb1236 => ?_)
    · replace ho1207 := cond_t hb1236 ho1207
      refine run_skip ?_
      refine at_then ?_
      refine run_seq ?_
      refine run_block ?_
      refine run_seq ?_
      obtain ⟨e1237, ho1207⟩ := chk_some ho1207
      refine run_region rfl ?_
      have hc1238 : CellsAt _ (sb p0) (so p0 + (a1222).toNat * 1) [(.int .i64 (gt x0 a1222))] := rd_plain hp0 e1237
      refine ops_ex rfl (guard_none rfl) rfl rfl (ex_indexAddr (d := kInt) rfl rfl rfl Tryd.underlying38 tsz2 hp0 (idx_lo e1237) (idx_hi e1237)) ?_
      refine ops_ex rfl (guard_none rfl) rfl rfl (ex_load1 rfl rfl Tryd.underlying2 rfl ((HM.at_ hc1238) 0 _ rfl)) ?_
      refine ops_ex rfl (guard_none rfl) rfl rfl (ex_assign rfl rfl) ?_
      refine ops_nil ?_
      refine at_then ?_
      obtain ⟨t1239, h1240, ho1207⟩ := bind_some ho1207
      obtain ⟨e1244, ho1207⟩ := chk_some ho1207
      refine run_region rfl ?_
      refine ops_ex rfl (guard_none rfl) rfl rfl (ex_move rfl rfl) ?_
      refine ops_ex rfl (guard_none rfl) rfl rfl (ex_move rfl rfl) ?_
      refine ops_does rfl (guard_none rfl) rfl rfl (does_callk rfl callok76 rfl (impl_dec.calls (x0 := (gt x0 a1222)) (HM.tabP htab) h1240)) ?_
      rintro _ w1247 ⟨rfl, hn⟩
      replace HM : Mem w [] w1247 [own kStr 9 v1219 a1220] := HM.call hn
      refine ops_does rfl (guard_none rfl) rfl rfl (does_lit (e := 9) (cs := [.string t1239]) (xs := ([t1239] : List ByteArray)) kStr rfl rfl (fun _ => by kernel_rfl) rfl rfl (fun _ _ h => by have h' : _ = [] := h; subst h'; exact (Elems.cons (d := kStr) (f := []) ⟨rfl, rfl⟩ .nil)) HM.emp) ?_
      rintro v1241 w1248 HM
      replace HM := HM.front 1 rfl rfl
      refine ops_does rfl (guard_none rfl) rfl rfl (does_appendR kStr flat_plain rfl rfl rfl Tryd.underlying103 tsz9 rfl tby9 tz9 rfl rfl (leB_le e1244) (HM.own_rd 1 rfl) HM) ?_
      rintro v1245 w1249 HM
      refine ops_ex rfl (guard_none rfl) rfl rfl (ex_assign rfl rfl) ?_
      refine ops_nil ?_
      refine at_block ?_
      refine at_then ?_
      refine run_region rfl ?_
      refine ops_ex rfl (guard_none rfl) rfl rfl (ex_add rfl rfl rfl) ?_
      refine ops_ex rfl (guard_none rfl) rfl rfl (ex_move rfl rfl) ?_
      refine ops_nil ?_
      replace HM := (HM.front 1 rfl rfl).drop
      exact at_again k1234 (ρ1 := [(1, .string x1), (5, v1245), (9, p0), (10, .int .i64 (x0.length : Int)), (11, .int .i64 (wrap64 (a1222 + 1)))]) (Nat.lt_succ_self _) ⟨_, _, _, ho1207, rfl, HM⟩ (Sub.cons rfl (Sub.cons rfl (Sub.cons rfl (Sub.cons rfl (Sub.cons rfl Sub.nil)))))
    · replace ho1207 := cond_f hb1236 ho1207
      refine run_exit ?_
      refine at_then_exit ?_
      refine at_then_exit ?_
      refine at_block_exit ?_
      exact at_mid (ρ' := [(1, .string x1), (5, v1219)]) ⟨_, _, (Option.some.inj ho1207), rfl, HM⟩ (Sub.cons rfl (Sub.cons rfl Sub.nil))
  · rintro _ w1250 ⟨v1203, a1204, rfl, rfl, HM⟩
    refine run_seq ?_
    obtain ⟨t1251, h1252, H⟩ := bind_some H
    refine run_region rfl ?_
    refine ops_ex rfl (guard_none rfl) rfl rfl (ex_move rfl rfl) ?_
    refine ops_ex rfl (guard_none rfl) rfl rfl (ex_move rfl rfl) ?_
    refine ops_does rfl (guard_none rfl) rfl rfl (does_callk rfl callok77 rfl (strings_Join.calls (x0 := a1204) (x1 := x1) (HM.own_rd 0 rfl) h1252)) ?_
    rintro _ w1253 ⟨rfl, hn⟩
    replace HM : Mem w [] w1253 [own kStr 9 v1203 a1204] := HM.call hn
    refine ops_ex rfl (guard_none rfl) rfl rfl (ex_assign rfl rfl) ?_
    refine ops_nil ?_
    refine at_then ?_
    refine run_ret ?_
    replace HM := (HM.front 0 rfl rfl).drop
    have hR := Option.some.inj H
    subst hR
    exact at_ret1 rfl rfl ⟨_, rfl, rfl, HM⟩

def impl_ruleText.f (k : Nat) (x0 : Rule) (x1 : ByteArray) : Option ByteArray := ((impl_dec.f k x0.fNeed).bind fun t1268 => (chk (leB (t1268.size + x1.size) 9223372036854775807) (chk (leB ((t1268 ++ x1).size + (⟨#[111, 102]⟩ : ByteArray).size) 9223372036854775807) (chk (leB (((t1268 ++ x1) ++ (⟨#[111, 102]⟩ : ByteArray)).size + x1.size) 9223372036854775807) ((impl_joined.f k x0.fKeys (⟨#[44]⟩ : ByteArray)).bind fun t1273 => (chk (leB ((((t1268 ++ x1) ++ (⟨#[111, 102]⟩ : ByteArray)) ++ x1).size + t1273.size) 9223372036854775807) (bif (x0.fAfter != 0) then (chk (leB (x1.size + (⟨#[97, 102, 116, 101, 114]⟩ : ByteArray).size) 9223372036854775807) (chk (leB ((x1 ++ (⟨#[97, 102, 116, 101, 114]⟩ : ByteArray)).size + x1.size) 9223372036854775807) ((impl_dec.f k x0.fAfter).bind fun t1281 => (chk (leB (((x1 ++ (⟨#[97, 102, 116, 101, 114]⟩ : ByteArray)) ++ x1).size + t1281.size) 9223372036854775807) (chk (leB (((((t1268 ++ x1) ++ (⟨#[111, 102]⟩ : ByteArray)) ++ x1) ++ t1273).size + (((x1 ++ (⟨#[97, 102, 116, 101, 114]⟩ : ByteArray)) ++ x1) ++ t1281).size) 9223372036854775807) (some (((((t1268 ++ x1) ++ (⟨#[111, 102]⟩ : ByteArray)) ++ x1) ++ t1273) ++ (((x1 ++ (⟨#[97, 102, 116, 101, 114]⟩ : ByteArray)) ++ x1) ++ t1281)))))))) else some ((((t1268 ++ x1) ++ (⟨#[111, 102]⟩ : ByteArray)) ++ x1) ++ t1273))))))))
theorem impl_ruleText.calls {k : Nat} {x0 : Rule} {x1 : ByteArray} {p0_0 : Value} {w : World} (htab : TabP w) (hp0_0 : RdS kInt w p0_0 x0.fKeys) {r : ByteArray} (H : impl_ruleText.f k x0 x1 = some r) :
    Calls Tryd.prog 78 ([.agg #[p0_0, (.int .i64 x0.fNeed), (.int .i64 x0.fAfter)], .string x1] : List Value).toArray w (fun e w_ => ∃ v, e = .returned v ∧ v = (.string r) ∧ Mem w [] w_ []) := by
  have HM := Mem.start w
  refine calls_run (N := 32) Tryd.func78 rfl rfl rfl rfl ?_
  unfold impl_ruleText.f at H
  refine run_seq ?_
  refine run_region rfl ?_
  refine ops_does rfl (guard_none rfl) rfl rfl (does_box (cs := [p0_0, .int .i64 x0.fNeed, .int .i64 x0.fAfter]) rfl rfl rfl HM) ?_
  rintro _ w1267 ⟨b1264, rfl, HM⟩
  refine ops_ex rfl (guard_none rfl) rfl rfl (ex_assign rfl rfl) ?_
  refine ops_nil ?_
  refine at_then ?_
  refine run_seq ?_
  obtain ⟨t1268, h1269, H⟩ := bind_some H
  obtain ⟨e1270, H⟩ := chk_some H
  obtain ⟨e1271, H⟩ := chk_some H
  obtain ⟨e1272, H⟩ := chk_some H
  obtain ⟨t1273, h1274, H⟩ := bind_some H
  obtain ⟨e1275, H⟩ := chk_some H
  refine run_drawf (fun w_ => Mem w [] w_ [box b1264 40 [p0_0, .int .i64 x0.fNeed, .int .i64 x0.fAfter]]) [(0, true), (1, true), (3, true), (6, true), (8, true), (9, true), (2, false), (4, true), (5, true), (7, true), (10, false), (11, true), (12, true)] mixed rfl rfl (by kernel_rfl) ?_
  replace HM := HM.grow (fr_drew _)
  have hS := Mem.suf (M := []) HM
  refine drwp_take rfl (guard_none rfl) rfl rfl (fun w_ hS_ => (ex_fieldAddr (off' := 1) rfl rfl Tryd.underlying40 rfl tsz2 rfl)) hS ?_
  refine drwp_take rfl (guard_none rfl) rfl rfl (fun w_ hS_ => (ex_load1 rfl rfl Tryd.underlying2 rfl ((hS_.box_at 0 rfl) 1 _ rfl))) hS ?_
  refine drwp_take rfl (guard_none rfl) rfl rfl (fun w_ hS_ => (ex_move rfl rfl)) hS ?_
  refine drwp_take rfl (guard_none rfl) rfl rfl (fun w_ hS_ => (ex_move rfl rfl)) hS ?_
  refine drwp_take rfl (guard_none rfl) rfl rfl (fun w_ hS_ => (ex_fieldAddr (off' := 0) rfl rfl Tryd.underlying40 rfl tsz38 rfl)) hS ?_
  refine drwp_take rfl (guard_none rfl) rfl rfl (fun w_ hS_ => (ex_load1 rfl rfl Tryd.underlying38 rfl ((hS_.box_at 0 rfl) 0 _ rfl))) hS ?_
  refine drwp_one rfl (guard_none rfl) rfl rfl (does_callk rfl callok76 rfl (impl_dec.calls (x0 := x0.fNeed) (HM.tabP htab) h1269)) ?_
  rintro _ w1276 ⟨rfl, hn⟩
  replace HM : Mem w [] w1276 [box b1264 40 [p0_0, .int .i64 x0.fNeed, .int .i64 x0.fAfter]] := HM.call hn
  refine ⟨Mem.suf (M := []) HM, ?_⟩
  have hS := Mem.suf (M := []) HM
  refine drwp_take rfl (guard_none rfl) rfl rfl (fun w_ hS_ => (ex_sadd rfl rfl rfl (leB_le e1270))) hS ?_
  refine drwp_take rfl (guard_none rfl) rfl rfl (fun w_ hS_ => (ex_sadd rfl rfl rfl (leB_le e1271))) hS ?_
  refine drwp_take rfl (guard_none rfl) rfl rfl (fun w_ hS_ => (ex_sadd rfl rfl rfl (leB_le e1272))) hS ?_
  refine drwp_one rfl (guard_none rfl) rfl rfl (does_callk rfl callok92 rfl (impl_joined.calls (x0 := x0.fKeys) (x1 := (⟨#[44]⟩ : ByteArray)) (HM.tabP htab) (HM.rd hp0_0) h1274)) ?_
  rintro _ w1277 ⟨rfl, hn⟩
  replace HM : Mem w [] w1277 [box b1264 40 [p0_0, .int .i64 x0.fNeed, .int .i64 x0.fAfter]] := HM.call hn
  refine ⟨Mem.suf (M := []) HM, ?_⟩
  have hS := Mem.suf (M := []) HM
  refine drwp_take rfl (guard_none rfl) rfl rfl (fun w_ hS_ => (ex_sadd rfl rfl rfl (leB_le e1275))) hS ?_
  refine drwp_take rfl (guard_none rfl) rfl rfl (fun w_ hS_ => (ex_assign rfl rfl)) hS ?_
  refine drwp_done ?_
  refine at_then ?_
  refine run_seq ?_
  refine run_seq ?_
  refine run_region rfl ?_
  refine ops_ex rfl (guard_none rfl) rfl rfl (ex_fieldAddr (off' := 2) rfl rfl Tryd.underlying40 rfl tsz2 rfl) ?_
  refine ops_ex rfl (guard_none rfl) rfl rfl (ex_load1 rfl rfl Tryd.underlying2 rfl ((HM.box_at 0 rfl) 2 _ rfl)) ?_
  refine ops_ex rfl (guard_none rfl) rfl rfl (ex_neq rfl rfl rfl) ?_
  refine ops_nil ?_
  refine at_then ?_
  refine run_cond (b := (x0.fAfter != 0)) rfl (fun hb1278 => ?_) (fun hb1278 => ?_)
  · replace H := cond_t hb1278 H
    obtain ⟨e1279, H⟩ := chk_some H
    obtain ⟨e1280, H⟩ := chk_some H
    obtain ⟨t1281, h1282, H⟩ := bind_some H
    obtain ⟨e1283, H⟩ := chk_some H
    obtain ⟨e1284, H⟩ := chk_some H
    refine run_region rfl ?_
    refine ops_ex rfl (guard_none rfl) rfl rfl (ex_move rfl rfl) ?_
    refine ops_ex rfl (guard_none rfl) rfl rfl (ex_move rfl rfl) ?_
    refine ops_ex rfl (guard_none rfl) rfl rfl (ex_sadd rfl rfl rfl (leB_le e1279)) ?_
    refine ops_ex rfl (guard_none rfl) rfl rfl (ex_move rfl rfl) ?_
    refine ops_ex rfl (guard_none rfl) rfl rfl (ex_sadd rfl rfl rfl (leB_le e1280)) ?_
    refine ops_ex rfl (guard_none rfl) rfl rfl (ex_fieldAddr (off' := 2) rfl rfl Tryd.underlying40 rfl tsz2 rfl) ?_
    refine ops_ex rfl (guard_none rfl) rfl rfl (ex_load1 rfl rfl Tryd.underlying2 rfl ((HM.box_at 0 rfl) 2 _ rfl)) ?_
    refine ops_does rfl (guard_none rfl) rfl rfl (does_callk rfl callok76 rfl (impl_dec.calls (x0 := x0.fAfter) (HM.tabP htab) h1282)) ?_
    rintro _ w1285 ⟨rfl, hn⟩
    replace HM : Mem w [] w1285 [box b1264 40 [p0_0, .int .i64 x0.fNeed, .int .i64 x0.fAfter]] := HM.call hn
    refine ops_ex rfl (guard_none rfl) rfl rfl (ex_sadd rfl rfl rfl (leB_le e1283)) ?_
    refine ops_ex rfl (guard_none rfl) rfl rfl (ex_sadd rfl rfl rfl (leB_le e1284)) ?_
    refine ops_ex rfl (guard_none rfl) rfl rfl (ex_assign rfl rfl) ?_
    refine ops_nil ?_
    refine at_then ?_
    refine run_seq ?_
    refine run_region rfl ?_
    refine ops_ex rfl (guard_none rfl) rfl rfl (ex_move rfl rfl) ?_
    refine ops_ex rfl (guard_none rfl) rfl rfl (ex_assign rfl rfl) ?_
    refine ops_nil ?_
    refine at_then ?_
    refine run_ret ?_
    replace HM := (HM.front 0 rfl rfl).drop
    have hR := Option.some.inj H
    subst hR
    exact at_ret1 rfl rfl ⟨_, rfl, rfl, HM⟩
  · replace H := cond_f hb1278 H
    refine run_skip ?_
    refine at_then ?_
    refine run_seq ?_
    refine run_region rfl ?_
    refine ops_ex rfl (guard_none rfl) rfl rfl (ex_move rfl rfl) ?_
    refine ops_ex rfl (guard_none rfl) rfl rfl (ex_assign rfl rfl) ?_
    refine ops_nil ?_
    refine at_then ?_
    refine run_ret ?_
    replace HM := (HM.front 0 rfl rfl).drop
    have hR := Option.some.inj H
    subst hR
    exact at_ret1 rfl rfl ⟨_, rfl, rfl, HM⟩

def impl_readRule.f (k : Nat) (x0 : ByteArray) (x1 : ByteArray) : Option (Rule × Bool) := ((strings_Split.f k x0 x1).bind fun t1293 => (bif ((decide (300 < (x0.size : Int))) || (((t1293.length : Int) != 3) && ((t1293.length : Int) != 5))) then some ((⟨([] : List Int), 0, 0⟩ : Rule), false) else (chk (idxOk (0 : Int) t1293.length) (chk (idxOk (2 : Int) t1293.length) ((impl_number.f k (gt t1293 (0 : Int))).bind fun t1309 => ((impl_numbers.f k (gt t1293 (2 : Int)) (⟨#[44]⟩ : ByteArray)).bind fun t1311 => ((bif ((t1293.length : Int) == 5) then (chk (idxOk (4 : Int) t1293.length) ((impl_number.f k (gt t1293 (4 : Int))).bind fun t1343 => some t1343)) else some 0).bind (fun a1338 => ((impl_RuleFault.f k (⟨t1311, t1309, a1338⟩ : Rule)).bind fun t1348 => ((bif (!(t1348 != 0)) then impl_ruleText.f k (⟨t1311, t1309, a1338⟩ : Rule) x1 else some default).bind fun t1350 => (bif ((t1348 != 0) || (!sEq t1350 x0)) then some ((⟨([] : List Int), 0, 0⟩ : Rule), false) else some ((⟨t1311, t1309, a1338⟩ : Rule), true))))))))))))
theorem impl_readRule.calls {k : Nat} {x0 : ByteArray} {x1 : ByteArray}  {w : World} (htab : TabP w)  {r : Rule × Bool} (H : impl_readRule.f k x0 x1 = some r) :
    Calls Tryd.prog 40 ([.string x0, .string x1] : List Value).toArray w (fun e w_ => ∃ v, e = .returned v ∧ ∃ u0 : Value, v = (.tuple #[.agg #[u0, .int .i64 r.1.fNeed, .int .i64 r.1.fAfter], .bool r.2]) ∧ Mem w [] w_ [own kInt 2 u0 r.1.fKeys]) := by
  have HM := Mem.start w
  refine calls_run (N := 54) Tryd.func40 rfl rfl rfl rfl ?_
  unfold impl_readRule.f at H
  refine run_seq ?_
  refine run_region rfl ?_
  refine ops_does rfl (guard_none rfl) rfl rfl (does_alloc (cs := [.slice none 0 0, .int .i64 0, .int .i64 0]) rfl tz40 rfl HM) ?_
  rintro _ w1292 ⟨b1289, rfl, HM⟩
  refine ops_ex rfl (guard_none rfl) rfl rfl (ex_assign rfl rfl) ?_
  refine ops_nil ?_
  refine at_then ?_
  refine run_seq ?_
  obtain ⟨t1293, h1294, H⟩ := bind_some H
  refine run_region rfl ?_
  refine ops_ex rfl (guard_none rfl) rfl rfl (ex_move rfl rfl) ?_
  refine ops_ex rfl (guard_none rfl) rfl rfl (ex_move rfl rfl) ?_
  refine ops_does rfl (guard_none rfl) rfl rfl (does_callk rfl callok84 rfl (strings_Split.calls (x0 := x0) (x1 := x1) (HM.tabP htab) h1294)) ?_
  rintro u1295 w1297 ⟨_, rfl, hn⟩
  replace HM : Mem w [] w1297 [own kStr 9 u1295 t1293, box b1289 40 [.slice none 0 0, .int .i64 0, .int .i64 0]] := HM.call hn
  refine ops_ex rfl (guard_none rfl) rfl rfl (ex_assign rfl rfl) ?_
  refine ops_nil ?_
  refine at_then ?_
  refine run_seq ?_
  refine run_seq ?_
  refine run_meet (fun ρ_ w_ => ρ_ = [(0, .string x0), (1, .string x1), (4, .pointer (some ⟨b1289, 0, none⟩)), (6, u1295), (23, .bool ((decide (300 < (x0.size : Int))) || (((t1293.length : Int) != 3) && ((t1293.length : Int) != 5))))] ∧ Mem w [] w_ [box b1289 40 [.slice none 0 0, .int .i64 0, .int .i64 0], own kStr 9 u1295 t1293]) ?_ ?_
  · skip
    refine run_region rfl ?_
    refine ops_ex rfl (guard_none rfl) rfl rfl (ex_move rfl rfl) ?_
    refine ops_ex rfl (guard_none rfl) rfl rfl (ex_strlen rfl rfl Tryd.underlying9) ?_
    refine ops_ex rfl (guard_none rfl) rfl rfl (ex_gtr rfl rfl rfl) ?_
    refine ops_ex rfl (guard_none rfl) rfl rfl (ex_move rfl rfl) ?_
    refine bool_cases (decide (300 < (x0.size : Int))) (fun hg1299 => ?_) (fun hg1299 => ?_)
    · skip
      refine ops_off rfl (guard_off rfl rfl rfl hg1299) rfl rfl ?_
      refine ops_off rfl (guard_off rfl rfl rfl hg1299) rfl rfl ?_
      refine ops_off rfl (guard_off rfl rfl rfl hg1299) rfl rfl ?_
      refine ops_off rfl (guard_off rfl rfl rfl hg1299) rfl rfl ?_
      refine ops_off rfl (guard_undef rfl rfl rfl) rfl rfl ?_
      refine ops_off rfl (guard_undef rfl rfl rfl) rfl rfl ?_
      refine ops_off rfl (guard_undef rfl rfl rfl) rfl rfl ?_
      refine ops_off rfl (guard_off rfl rfl rfl hg1299) rfl rfl ?_
      have hg1300 : ((decide (300 < (x0.size : Int))) || (((t1293.length : Int) != 3) && ((t1293.length : Int) != 5))) = true := by simp only [hg1299, Bool.and_true, Bool.true_and, Bool.and_false, Bool.false_and, Bool.or_true, Bool.true_or, Bool.or_false, Bool.false_or, Bool.not_true, Bool.not_false, Bool.not_not]
      refine ops_ex (v := .bool ((decide (300 < (x0.size : Int))) || (((t1293.length : Int) != 3) && ((t1293.length : Int) != 5)))) rfl (guard_none rfl) rfl rfl (ex_por_t rfl rfl hg1299) ?_
      refine ops_nil ?_
      replace HM := HM.front 1 rfl rfl
      exact at_meet [(0, .string x0), (1, .string x1), (4, .pointer (some ⟨b1289, 0, none⟩)), (6, u1295), (23, .bool ((decide (300 < (x0.size : Int))) || (((t1293.length : Int) != 3) && ((t1293.length : Int) != 5))))] ⟨rfl, HM⟩ (Sub.cons rfl (Sub.cons rfl (Sub.cons rfl (Sub.cons rfl (Sub.cons rfl Sub.nil)))))
    · skip
      refine ops_ex rfl (guard_on rfl rfl rfl hg1299) rfl rfl (ex_move rfl rfl) ?_
      refine ops_ex rfl (guard_on rfl rfl rfl hg1299) rfl rfl (ex_len (d := kStr) (xs := t1293) rfl rfl Tryd.underlying103 (HM.own_rd 0 rfl)) ?_
      refine ops_ex rfl (guard_on rfl rfl rfl hg1299) rfl rfl (ex_neq rfl rfl rfl) ?_
      refine ops_ex rfl (guard_on rfl rfl rfl hg1299) rfl rfl (ex_move rfl rfl) ?_
      refine bool_cases ((t1293.length : Int) != 3) (fun hg1301 => ?_) (fun hg1301 => ?_)
      · skip
        refine ops_ex rfl (guard_on rfl rfl rfl hg1301) rfl rfl (ex_move rfl rfl) ?_
        refine ops_ex rfl (guard_on rfl rfl rfl hg1301) rfl rfl (ex_len (d := kStr) (xs := t1293) rfl rfl Tryd.underlying103 (HM.own_rd 0 rfl)) ?_
        refine ops_ex rfl (guard_on rfl rfl rfl hg1301) rfl rfl (ex_neq rfl rfl rfl) ?_
        refine ops_ex (v := .bool (((t1293.length : Int) != 3) && ((t1293.length : Int) != 5))) rfl (guard_on rfl rfl rfl hg1299) rfl rfl (ex_pand_t rfl rfl hg1301 rfl) ?_
        refine ops_ex (v := .bool ((decide (300 < (x0.size : Int))) || (((t1293.length : Int) != 3) && ((t1293.length : Int) != 5)))) rfl (guard_none rfl) rfl rfl (ex_por_f rfl rfl hg1299 rfl) ?_
        refine ops_nil ?_
        replace HM := HM.front 1 rfl rfl
        exact at_meet [(0, .string x0), (1, .string x1), (4, .pointer (some ⟨b1289, 0, none⟩)), (6, u1295), (23, .bool ((decide (300 < (x0.size : Int))) || (((t1293.length : Int) != 3) && ((t1293.length : Int) != 5))))] ⟨rfl, HM⟩ (Sub.cons rfl (Sub.cons rfl (Sub.cons rfl (Sub.cons rfl (Sub.cons rfl Sub.nil)))))
      · skip
        refine ops_off rfl (guard_off rfl rfl rfl hg1301) rfl rfl ?_
        refine ops_off rfl (guard_off rfl rfl rfl hg1301) rfl rfl ?_
        refine ops_off rfl (guard_off rfl rfl rfl hg1301) rfl rfl ?_
        have hg1302 : (((t1293.length : Int) != 3) && ((t1293.length : Int) != 5)) = false := by simp only [hg1301, Bool.and_true, Bool.true_and, Bool.and_false, Bool.false_and, Bool.or_true, Bool.true_or, Bool.or_false, Bool.false_or, Bool.not_true, Bool.not_false, Bool.not_not]
        refine ops_ex (v := .bool (((t1293.length : Int) != 3) && ((t1293.length : Int) != 5))) rfl (guard_on rfl rfl rfl hg1299) rfl rfl (ex_pand_f rfl rfl hg1301) ?_
        refine ops_ex (v := .bool ((decide (300 < (x0.size : Int))) || (((t1293.length : Int) != 3) && ((t1293.length : Int) != 5)))) rfl (guard_none rfl) rfl rfl (ex_por_f rfl rfl hg1299 rfl) ?_
        refine ops_nil ?_
        replace HM := HM.front 1 rfl rfl
        exact at_meet [(0, .string x0), (1, .string x1), (4, .pointer (some ⟨b1289, 0, none⟩)), (6, u1295), (23, .bool ((decide (300 < (x0.size : Int))) || (((t1293.length : Int) != 3) && ((t1293.length : Int) != 5))))] ⟨rfl, HM⟩ (Sub.cons rfl (Sub.cons rfl (Sub.cons rfl (Sub.cons rfl (Sub.cons rfl Sub.nil)))))
  · rintro _ w1303 ⟨rfl, HM⟩
    refine at_then ?_
    refine run_cond (b := ((decide (300 < (x0.size : Int))) || (((t1293.length : Int) != 3) && ((t1293.length : Int) != 5)))) rfl (fun hb1304 => ?_) (fun hb1304 => ?_)
    · replace H := cond_t hb1304 H
      refine run_seq ?_
      refine run_region rfl ?_
      refine ops_ex rfl (guard_none rfl) rfl rfl (ex_build (cells := #[(.slice none 0 0), (.int .i64 0), (.int .i64 0)]) rfl rfl (by kernel_rfl)) ?_
      refine ops_doesS rfl (guard_none rfl) rfl (does_store (vs := [.slice none 0 0, .int .i64 0, .int .i64 0]) (cs' := [.slice none 0 0, .int .i64 0, .int .i64 0]) rfl rfl rfl rfl tsz40 (Ones.sl (Ones.int (Ones.int Ones.nil))) rfl rfl HM) ?_
      rintro w1305 HM
      refine ops_ex rfl (guard_none rfl) rfl rfl (ex_assign rfl rfl) ?_
      refine ops_nil ?_
      refine at_then ?_
      refine run_ret ?_
      refine at_then_ret ?_
      replace HM := HM.empty kInt 2 none
      replace HM := (HM.front 2 rfl rfl).drop
      replace HM := HM.front 1 rfl rfl
      have hcb0 := HM.box_at 0 rfl
      replace HM := (HM.front 0 rfl rfl).drop
      have hR := Option.some.inj H
      subst hR
      exact at_retN1 rfl rfl rfl Tryd.underlying40 rfl tsz40 rfl hcb0 ⟨_, rfl, _, rfl, HM⟩
    · replace H := cond_f hb1304 H
      refine run_skip ?_
      refine at_then ?_
      refine run_seq ?_
      obtain ⟨e1307, H⟩ := chk_some H
      obtain ⟨e1308, H⟩ := chk_some H
      obtain ⟨t1309, h1310, H⟩ := bind_some H
      obtain ⟨t1311, h1312, H⟩ := bind_some H
      refine run_meet (fun ρ_ w_ => ∃ u1313 : Value, ∃ b1315 : Nat, ρ_ = [(0, .string x0), (1, .string x1), (4, .pointer (some ⟨b1289, 0, none⟩)), (6, u1295), (7, .pointer (some ⟨b1315, 0, none⟩))] ∧ Mem w [] w_ [box b1289 40 [.slice none 0 0, .int .i64 0, .int .i64 0], own kStr 9 u1295 t1293, box b1315 40 [u1313, .int .i64 t1309, .int .i64 0], own kInt 2 u1313 t1311]) ?_ ?_
      · skip
        refine run_draw (fun w_ => Mem w [] w_ [box b1289 40 [.slice none 0 0, .int .i64 0, .int .i64 0], own kStr 9 u1295 t1293]) mixed rfl (l := #[false, false, false, false, false, false, false, false, false, false, false]) rfl ?_
        replace HM := HM.grow (fr_drew _)
        have hS := Mem.suf (M := []) HM
        refine drw_take (i := 0) (l' := #[true, false, false, false, false, false, false, false, false, false, false]) rfl (guard_none rfl) rfl rfl (by kernel_rfl) (fun w_ hS_ => (ex_move rfl rfl)) hS ?_
        refine drw_take (i := 1) (l' := #[true, true, false, false, false, false, false, false, false, false, false]) rfl (guard_none rfl) rfl rfl (by kernel_rfl) (fun w_ hS_ => (ex_indexAddr (d := kStr) rfl rfl rfl Tryd.underlying103 tsz9 (hS_.own_rd 1 rfl) (idx_lo e1307) (idx_hi e1307))) hS ?_
        refine drw_take (i := 2) (l' := #[true, true, true, false, false, false, false, false, false, false, false]) rfl (guard_none rfl) rfl rfl (by kernel_rfl) (fun w_ hS_ => (ex_load1 rfl rfl Tryd.underlying9 rfl ((rd_plain (hS_.own_rd 1 rfl) e1307) 0 _ rfl))) hS ?_
        refine drw_take (i := 4) (l' := #[true, true, true, false, true, false, false, false, false, false, false]) rfl (guard_none rfl) rfl rfl (by kernel_rfl) (fun w_ hS_ => (ex_move rfl rfl)) hS ?_
        refine drw_take (i := 5) (l' := #[true, true, true, false, true, true, false, false, false, false, false]) rfl (guard_none rfl) rfl rfl (by kernel_rfl) (fun w_ hS_ => (ex_indexAddr (d := kStr) rfl rfl rfl Tryd.underlying103 tsz9 (hS_.own_rd 1 rfl) (idx_lo e1308) (idx_hi e1308))) hS ?_
        refine drw_take (i := 6) (l' := #[true, true, true, false, true, true, true, false, false, false, false]) rfl (guard_none rfl) rfl rfl (by kernel_rfl) (fun w_ hS_ => (ex_load1 rfl rfl Tryd.underlying9 rfl ((rd_plain (hS_.own_rd 1 rfl) e1308) 0 _ rfl))) hS ?_
        refine drw_any [3, 9] (by kernel_rfl) rfl (.cons ?_ (.cons ?_ .nil))
        · skip
          refine br_does (l' := #[true, true, true, true, true, true, true, false, false, false, false]) rfl (guard_none rfl) rfl rfl (by kernel_rfl) (does_callk rfl callok85 rfl (impl_number.calls (x0 := (gt t1293 (0 : Int))) (HM.tabP htab) h1310)) ?_
          rintro _ w1318 ⟨rfl, hn⟩
          replace HM : Mem w [] w1318 [box b1289 40 [.slice none 0 0, .int .i64 0, .int .i64 0], own kStr 9 u1295 t1293] := HM.call hn
          refine ⟨Mem.suf (M := []) HM, ?_⟩
          have hS := Mem.suf (M := []) HM
          refine drw_any [7, 9] (by kernel_rfl) rfl (.cons ?_ (.cons ?_ .nil))
          · skip
            refine br_does (l' := #[true, true, true, true, true, true, true, true, false, false, false]) rfl (guard_none rfl) rfl rfl (by kernel_rfl) (does_callk rfl callok86 rfl (impl_numbers.calls (x0 := (gt t1293 (2 : Int))) (x1 := (⟨#[44]⟩ : ByteArray)) (HM.tabP htab) h1312)) ?_
            rintro u1313 w1319 ⟨_, rfl, hn⟩
            replace HM : Mem w [] w1319 [own kInt 2 u1313 t1311, box b1289 40 [.slice none 0 0, .int .i64 0, .int .i64 0], own kStr 9 u1295 t1293] := HM.call hn
            refine ⟨Mem.suf (M := [own kInt 2 u1313 t1311]) HM, ?_⟩
            have hS := Mem.suf (M := [own kInt 2 u1313 t1311]) HM
            refine drw_take (i := 8) (l' := #[true, true, true, true, true, true, true, true, true, false, false]) rfl (guard_none rfl) rfl rfl (by kernel_rfl) (fun w_ hS_ => (ex_build1 (fun u1313 => [(1, .int .i64 t1309), (0, u1313)]) (fun u1313 => #[u1313, .int .i64 t1309, .int .i64 0]) rfl rfl (fun _ _ _ => by kernel_rfl) (HM.own_rd 0 rfl).isSl)) hS ?_
            refine drw_any [9] (by kernel_rfl) rfl (.cons ?_ .nil)
            refine br_does (l' := #[true, true, true, true, true, true, true, true, true, true, false]) rfl (guard_none rfl) rfl rfl (by kernel_rfl) (does_alloc (cs := [.slice none 0 0, .int .i64 0, .int .i64 0]) rfl tz40 rfl HM) ?_
            rintro _ w1320 ⟨b1315, rfl, HM⟩
            refine ⟨Mem.suf (M := [box b1315 40 [.slice none 0 0, .int .i64 0, .int .i64 0], own kInt 2 u1313 t1311]) HM, ?_⟩
            have hS := Mem.suf (M := [box b1315 40 [.slice none 0 0, .int .i64 0, .int .i64 0], own kInt 2 u1313 t1311]) HM
            refine drw_any [10] (by kernel_rfl) rfl (.cons ?_ .nil)
            refine br_doesS (l' := #[true, true, true, true, true, true, true, true, true, true, true]) rfl (guard_none rfl) rfl (by kernel_rfl) (does_store (vs := [u1313, .int .i64 t1309, .int .i64 0]) (cs' := [u1313, .int .i64 t1309, .int .i64 0]) rfl rfl rfl rfl tsz40 (Ones.rd (HM.own_rd 1 rfl) (Ones.int (Ones.int Ones.nil))) rfl rfl HM) ?_
            rintro w1321 HM
            refine ⟨Mem.suf (M := [box b1315 40 [u1313, .int .i64 t1309, .int .i64 0], own kInt 2 u1313 t1311]) HM, ?_⟩
            have hS := Mem.suf (M := [box b1315 40 [u1313, .int .i64 t1309, .int .i64 0], own kInt 2 u1313 t1311]) HM
            refine drw_done (by kernel_rfl) ?_
            replace HM := HM.front 1 rfl rfl
            replace HM := HM.front 1 rfl rfl
            replace HM := HM.front 3 rfl rfl
            replace HM := HM.front 3 rfl rfl
            exact at_meet [(0, .string x0), (1, .string x1), (4, .pointer (some ⟨b1289, 0, none⟩)), (6, u1295), (7, .pointer (some ⟨b1315, 0, none⟩))] ⟨_, _, rfl, HM⟩ (Sub.cons rfl (Sub.cons rfl (Sub.cons rfl (Sub.cons rfl (Sub.cons rfl Sub.nil)))))
          · skip
            refine br_does (l' := #[true, true, true, true, true, true, true, false, false, true, false]) rfl (guard_none rfl) rfl rfl (by kernel_rfl) (does_alloc (cs := [.slice none 0 0, .int .i64 0, .int .i64 0]) rfl tz40 rfl HM) ?_
            rintro _ w1322 ⟨b1315, rfl, HM⟩
            refine ⟨Mem.suf (M := [box b1315 40 [.slice none 0 0, .int .i64 0, .int .i64 0]]) HM, ?_⟩
            have hS := Mem.suf (M := [box b1315 40 [.slice none 0 0, .int .i64 0, .int .i64 0]]) HM
            refine drw_any [7] (by kernel_rfl) rfl (.cons ?_ .nil)
            refine br_does (l' := #[true, true, true, true, true, true, true, true, false, true, false]) rfl (guard_none rfl) rfl rfl (by kernel_rfl) (does_callk rfl callok86 rfl (impl_numbers.calls (x0 := (gt t1293 (2 : Int))) (x1 := (⟨#[44]⟩ : ByteArray)) (HM.tabP htab) h1312)) ?_
            rintro u1313 w1323 ⟨_, rfl, hn⟩
            replace HM : Mem w [] w1323 [own kInt 2 u1313 t1311, box b1315 40 [.slice none 0 0, .int .i64 0, .int .i64 0], box b1289 40 [.slice none 0 0, .int .i64 0, .int .i64 0], own kStr 9 u1295 t1293] := HM.call hn
            refine ⟨Mem.suf (M := [own kInt 2 u1313 t1311, box b1315 40 [.slice none 0 0, .int .i64 0, .int .i64 0]]) HM, ?_⟩
            have hS := Mem.suf (M := [own kInt 2 u1313 t1311, box b1315 40 [.slice none 0 0, .int .i64 0, .int .i64 0]]) HM
            refine drw_take (i := 8) (l' := #[true, true, true, true, true, true, true, true, true, true, false]) rfl (guard_none rfl) rfl rfl (by kernel_rfl) (fun w_ hS_ => (ex_build1 (fun u1313 => [(1, .int .i64 t1309), (0, u1313)]) (fun u1313 => #[u1313, .int .i64 t1309, .int .i64 0]) rfl rfl (fun _ _ _ => by kernel_rfl) (HM.own_rd 0 rfl).isSl)) hS ?_
            replace HM := HM.front 1 rfl rfl
            refine drw_any [10] (by kernel_rfl) rfl (.cons ?_ .nil)
            refine br_doesS (l' := #[true, true, true, true, true, true, true, true, true, true, true]) rfl (guard_none rfl) rfl (by kernel_rfl) (does_store (vs := [u1313, .int .i64 t1309, .int .i64 0]) (cs' := [u1313, .int .i64 t1309, .int .i64 0]) rfl rfl rfl rfl tsz40 (Ones.rd (HM.own_rd 1 rfl) (Ones.int (Ones.int Ones.nil))) rfl rfl HM) ?_
            rintro w1324 HM
            refine ⟨Mem.suf (M := [box b1315 40 [u1313, .int .i64 t1309, .int .i64 0], own kInt 2 u1313 t1311]) HM, ?_⟩
            have hS := Mem.suf (M := [box b1315 40 [u1313, .int .i64 t1309, .int .i64 0], own kInt 2 u1313 t1311]) HM
            refine drw_done (by kernel_rfl) ?_
            replace HM := HM.front 1 rfl rfl
            replace HM := HM.front 1 rfl rfl
            replace HM := HM.front 3 rfl rfl
            replace HM := HM.front 3 rfl rfl
            exact at_meet [(0, .string x0), (1, .string x1), (4, .pointer (some ⟨b1289, 0, none⟩)), (6, u1295), (7, .pointer (some ⟨b1315, 0, none⟩))] ⟨_, _, rfl, HM⟩ (Sub.cons rfl (Sub.cons rfl (Sub.cons rfl (Sub.cons rfl (Sub.cons rfl Sub.nil)))))
        · skip
          refine br_does (l' := #[true, true, true, false, true, true, true, false, false, true, false]) rfl (guard_none rfl) rfl rfl (by kernel_rfl) (does_alloc (cs := [.slice none 0 0, .int .i64 0, .int .i64 0]) rfl tz40 rfl HM) ?_
          rintro _ w1325 ⟨b1315, rfl, HM⟩
          refine ⟨Mem.suf (M := [box b1315 40 [.slice none 0 0, .int .i64 0, .int .i64 0]]) HM, ?_⟩
          have hS := Mem.suf (M := [box b1315 40 [.slice none 0 0, .int .i64 0, .int .i64 0]]) HM
          refine drw_any [3] (by kernel_rfl) rfl (.cons ?_ .nil)
          refine br_does (l' := #[true, true, true, true, true, true, true, false, false, true, false]) rfl (guard_none rfl) rfl rfl (by kernel_rfl) (does_callk rfl callok85 rfl (impl_number.calls (x0 := (gt t1293 (0 : Int))) (HM.tabP htab) h1310)) ?_
          rintro _ w1326 ⟨rfl, hn⟩
          replace HM : Mem w [] w1326 [box b1315 40 [.slice none 0 0, .int .i64 0, .int .i64 0], box b1289 40 [.slice none 0 0, .int .i64 0, .int .i64 0], own kStr 9 u1295 t1293] := HM.call hn
          refine ⟨Mem.suf (M := [box b1315 40 [.slice none 0 0, .int .i64 0, .int .i64 0]]) HM, ?_⟩
          have hS := Mem.suf (M := [box b1315 40 [.slice none 0 0, .int .i64 0, .int .i64 0]]) HM
          refine drw_any [7] (by kernel_rfl) rfl (.cons ?_ .nil)
          refine br_does (l' := #[true, true, true, true, true, true, true, true, false, true, false]) rfl (guard_none rfl) rfl rfl (by kernel_rfl) (does_callk rfl callok86 rfl (impl_numbers.calls (x0 := (gt t1293 (2 : Int))) (x1 := (⟨#[44]⟩ : ByteArray)) (HM.tabP htab) h1312)) ?_
          rintro u1313 w1327 ⟨_, rfl, hn⟩
          replace HM : Mem w [] w1327 [own kInt 2 u1313 t1311, box b1315 40 [.slice none 0 0, .int .i64 0, .int .i64 0], box b1289 40 [.slice none 0 0, .int .i64 0, .int .i64 0], own kStr 9 u1295 t1293] := HM.call hn
          refine ⟨Mem.suf (M := [own kInt 2 u1313 t1311, box b1315 40 [.slice none 0 0, .int .i64 0, .int .i64 0]]) HM, ?_⟩
          have hS := Mem.suf (M := [own kInt 2 u1313 t1311, box b1315 40 [.slice none 0 0, .int .i64 0, .int .i64 0]]) HM
          refine drw_take (i := 8) (l' := #[true, true, true, true, true, true, true, true, true, true, false]) rfl (guard_none rfl) rfl rfl (by kernel_rfl) (fun w_ hS_ => (ex_build1 (fun u1313 => [(1, .int .i64 t1309), (0, u1313)]) (fun u1313 => #[u1313, .int .i64 t1309, .int .i64 0]) rfl rfl (fun _ _ _ => by kernel_rfl) (HM.own_rd 0 rfl).isSl)) hS ?_
          replace HM := HM.front 1 rfl rfl
          refine drw_any [10] (by kernel_rfl) rfl (.cons ?_ .nil)
          refine br_doesS (l' := #[true, true, true, true, true, true, true, true, true, true, true]) rfl (guard_none rfl) rfl (by kernel_rfl) (does_store (vs := [u1313, .int .i64 t1309, .int .i64 0]) (cs' := [u1313, .int .i64 t1309, .int .i64 0]) rfl rfl rfl rfl tsz40 (Ones.rd (HM.own_rd 1 rfl) (Ones.int (Ones.int Ones.nil))) rfl rfl HM) ?_
          rintro w1328 HM
          refine ⟨Mem.suf (M := [box b1315 40 [u1313, .int .i64 t1309, .int .i64 0], own kInt 2 u1313 t1311]) HM, ?_⟩
          have hS := Mem.suf (M := [box b1315 40 [u1313, .int .i64 t1309, .int .i64 0], own kInt 2 u1313 t1311]) HM
          refine drw_done (by kernel_rfl) ?_
          replace HM := HM.front 1 rfl rfl
          replace HM := HM.front 1 rfl rfl
          replace HM := HM.front 3 rfl rfl
          replace HM := HM.front 3 rfl rfl
          exact at_meet [(0, .string x0), (1, .string x1), (4, .pointer (some ⟨b1289, 0, none⟩)), (6, u1295), (7, .pointer (some ⟨b1315, 0, none⟩))] ⟨_, _, rfl, HM⟩ (Sub.cons rfl (Sub.cons rfl (Sub.cons rfl (Sub.cons rfl (Sub.cons rfl Sub.nil)))))
      · rintro _ w1329 ⟨u1313, b1315, rfl, HM⟩
        refine at_then ?_
        obtain ⟨o1339, ho1340, H⟩ := bind_some H
        refine run_mid (fun ρ_ w_ => ∃ a1338 : Int, a1338 = o1339 ∧ ρ_ = [(0, .string x0), (1, .string x1), (4, .pointer (some ⟨b1289, 0, none⟩)), (7, .pointer (some ⟨b1315, 0, none⟩))] ∧ Mem w [] w_ [box b1289 40 [.slice none 0 0, .int .i64 0, .int .i64 0], box b1315 40 [u1313, .int .i64 t1309, .int .i64 a1338], own kInt 2 u1313 t1311]) ?_ ?_
        · clear H
          refine run_seq ?_
          refine run_region rfl ?_
          refine ops_ex rfl (guard_none rfl) rfl rfl (ex_move rfl rfl) ?_
          refine ops_ex rfl (guard_none rfl) rfl rfl (ex_len (d := kStr) (xs := t1293) rfl rfl Tryd.underlying103 (HM.own_rd 1 rfl)) ?_
          refine ops_ex rfl (guard_none rfl) rfl rfl (ex_eql rfl rfl rfl) ?_
          refine ops_nil ?_
          refine at_then ?_
          refine run_cond (b := ((t1293.length : Int) == 5)) rfl (fun hb1341 => ?_) (fun hb1341 => ?_)
          · replace ho1340 := cond_t hb1341 ho1340
            obtain ⟨e1342, ho1340⟩ := chk_some ho1340
            obtain ⟨t1343, h1344, ho1340⟩ := bind_some ho1340
            refine run_region rfl ?_
            refine ops_ex rfl (guard_none rfl) rfl rfl (ex_move rfl rfl) ?_
            refine ops_ex rfl (guard_none rfl) rfl rfl (ex_indexAddr (d := kStr) rfl rfl rfl Tryd.underlying103 tsz9 (HM.own_rd 1 rfl) (idx_lo e1342) (idx_hi e1342)) ?_
            refine ops_ex rfl (guard_none rfl) rfl rfl (ex_load1 rfl rfl Tryd.underlying9 rfl ((rd_plain (HM.own_rd 1 rfl) e1342) 0 _ rfl)) ?_
            refine ops_does rfl (guard_none rfl) rfl rfl (does_callk rfl callok85 rfl (impl_number.calls (x0 := (gt t1293 (4 : Int))) (HM.tabP htab) h1344)) ?_
            rintro _ w1345 ⟨rfl, hn⟩
            replace HM : Mem w [] w1345 [box b1289 40 [.slice none 0 0, .int .i64 0, .int .i64 0], own kStr 9 u1295 t1293, box b1315 40 [u1313, .int .i64 t1309, .int .i64 0], own kInt 2 u1313 t1311] := HM.call hn
            refine ops_ex rfl (guard_none rfl) rfl rfl (ex_fieldAddr (off' := 2) rfl rfl Tryd.underlying40 rfl tsz2 rfl) ?_
            replace HM := HM.front 2 rfl rfl
            refine ops_doesS rfl (guard_none rfl) rfl (does_store (vs := [.int .i64 t1343]) (cs' := [u1313, .int .i64 t1309, .int .i64 t1343]) rfl rfl rfl rfl tsz2 (Ones.int Ones.nil) rfl rfl HM) ?_
            rintro w1346 HM
            refine ops_nil ?_
            replace HM := (HM.front 2 rfl rfl).drop
            replace HM := HM.front 2 rfl rfl
            replace HM := HM.front 1 rfl rfl
            replace HM := HM.front 2 rfl rfl
            exact at_mid (ρ' := [(0, .string x0), (1, .string x1), (4, .pointer (some ⟨b1289, 0, none⟩)), (7, .pointer (some ⟨b1315, 0, none⟩))]) ⟨_, (Option.some.inj ho1340), rfl, HM⟩ (Sub.cons rfl (Sub.cons rfl (Sub.cons rfl (Sub.cons rfl Sub.nil))))
          · replace ho1340 := cond_f hb1341 ho1340
            refine run_skip ?_
            replace HM := (HM.front 1 rfl rfl).drop
            exact at_mid (ρ' := [(0, .string x0), (1, .string x1), (4, .pointer (some ⟨b1289, 0, none⟩)), (7, .pointer (some ⟨b1315, 0, none⟩))]) ⟨_, (Option.some.inj ho1340), rfl, HM⟩ (Sub.cons rfl (Sub.cons rfl (Sub.cons rfl (Sub.cons rfl Sub.nil))))
        · rintro _ w1347 ⟨a1338, rfl, rfl, HM⟩
          refine run_seq ?_
          refine run_seq ?_
          obtain ⟨t1348, h1349, H⟩ := bind_some H
          obtain ⟨t1350, h1351, H⟩ := bind_some H
          refine run_meet (fun ρ_ w_ => ρ_ = [(4, .pointer (some ⟨b1289, 0, none⟩)), (7, .pointer (some ⟨b1315, 0, none⟩)), (51, .bool ((t1348 != 0) || (!sEq t1350 x0)))] ∧ Mem w [] w_ [box b1289 40 [.slice none 0 0, .int .i64 0, .int .i64 0], box b1315 40 [u1313, .int .i64 t1309, .int .i64 a1338], own kInt 2 u1313 t1311]) ?_ ?_
          · skip
            refine run_region rfl ?_
            refine ops_ex rfl (guard_none rfl) rfl rfl (ex_loadN (cs := [u1313, (.int .i64 t1309), (.int .i64 a1338)]) rfl rfl Tryd.underlying40 rfl tsz40 rfl ((HM.box_at 1 rfl).sub 0 3 rfl)) ?_
            refine ops_does rfl (guard_none rfl) rfl rfl (does_callk rfl callok87 rfl (impl_RuleFault.calls (x0 := (⟨t1311, t1309, a1338⟩ : Rule)) (HM.own_rd 2 rfl) h1349)) ?_
            rintro _ w1352 ⟨rfl, hn⟩
            replace HM : Mem w [] w1352 [box b1289 40 [.slice none 0 0, .int .i64 0, .int .i64 0], box b1315 40 [u1313, .int .i64 t1309, .int .i64 a1338], own kInt 2 u1313 t1311] := HM.call hn
            refine ops_ex rfl (guard_none rfl) rfl rfl (ex_neq rfl rfl rfl) ?_
            refine ops_ex rfl (guard_none rfl) rfl rfl (ex_move rfl rfl) ?_
            refine bool_cases (t1348 != 0) (fun hg1353 => ?_) (fun hg1353 => ?_)
            · skip
              refine ops_off rfl (guard_off rfl rfl rfl hg1353) rfl rfl ?_
              refine ops_off rfl (guard_off rfl rfl rfl hg1353) rfl rfl ?_
              refine ops_off rfl (guard_off rfl rfl rfl hg1353) rfl rfl ?_
              refine ops_off rfl (guard_off rfl rfl rfl hg1353) rfl rfl ?_
              refine ops_off rfl (guard_off rfl rfl rfl hg1353) rfl rfl ?_
              have hg1354 : ((t1348 != 0) || (!sEq t1350 x0)) = true := by simp only [hg1353, Bool.and_true, Bool.true_and, Bool.and_false, Bool.false_and, Bool.or_true, Bool.true_or, Bool.or_false, Bool.false_or, Bool.not_true, Bool.not_false, Bool.not_not]
              refine ops_ex (v := .bool ((t1348 != 0) || (!sEq t1350 x0))) rfl (guard_none rfl) rfl rfl (ex_por_t rfl rfl hg1353) ?_
              refine ops_nil ?_
              exact at_meet [(4, .pointer (some ⟨b1289, 0, none⟩)), (7, .pointer (some ⟨b1315, 0, none⟩)), (51, .bool ((t1348 != 0) || (!sEq t1350 x0)))] ⟨rfl, HM⟩ (Sub.cons rfl (Sub.cons rfl (Sub.cons rfl Sub.nil)))
            · skip
              refine ops_ex rfl (guard_on rfl rfl rfl hg1353) rfl rfl (ex_loadN (cs := [u1313, (.int .i64 t1309), (.int .i64 a1338)]) rfl rfl Tryd.underlying40 rfl tsz40 rfl ((HM.box_at 1 rfl).sub 0 3 rfl)) ?_
              refine ops_ex rfl (guard_on rfl rfl rfl hg1353) rfl rfl (ex_move rfl rfl) ?_
              refine ops_does rfl (guard_on rfl rfl rfl hg1353) rfl rfl (does_callk rfl callok78 rfl (impl_ruleText.calls (x0 := (⟨t1311, t1309, a1338⟩ : Rule)) (x1 := x1) (HM.tabP htab) (HM.own_rd 2 rfl) (cond_t (not_mk hg1353) h1351))) ?_
              rintro _ w1355 ⟨rfl, hn⟩
              replace HM : Mem w [] w1355 [box b1289 40 [.slice none 0 0, .int .i64 0, .int .i64 0], box b1315 40 [u1313, .int .i64 t1309, .int .i64 a1338], own kInt 2 u1313 t1311] := HM.call hn
              refine ops_ex rfl (guard_on rfl rfl rfl hg1353) rfl rfl (ex_move rfl rfl) ?_
              refine ops_ex rfl (guard_on rfl rfl rfl hg1353) rfl rfl (ex_sneq rfl rfl rfl) ?_
              refine ops_ex (v := .bool ((t1348 != 0) || (!sEq t1350 x0))) rfl (guard_none rfl) rfl rfl (ex_por_f rfl rfl hg1353 rfl) ?_
              refine ops_nil ?_
              exact at_meet [(4, .pointer (some ⟨b1289, 0, none⟩)), (7, .pointer (some ⟨b1315, 0, none⟩)), (51, .bool ((t1348 != 0) || (!sEq t1350 x0)))] ⟨rfl, HM⟩ (Sub.cons rfl (Sub.cons rfl (Sub.cons rfl Sub.nil)))
          · rintro _ w1356 ⟨rfl, HM⟩
            refine at_then ?_
            refine run_cond (b := ((t1348 != 0) || (!sEq t1350 x0))) rfl (fun hb1357 => ?_) (fun hb1357 => ?_)
            · replace H := cond_t hb1357 H
              refine run_seq ?_
              refine run_region rfl ?_
              refine ops_ex rfl (guard_none rfl) rfl rfl (ex_build (cells := #[(.slice none 0 0), (.int .i64 0), (.int .i64 0)]) rfl rfl (by kernel_rfl)) ?_
              refine ops_doesS rfl (guard_none rfl) rfl (does_store (vs := [.slice none 0 0, .int .i64 0, .int .i64 0]) (cs' := [.slice none 0 0, .int .i64 0, .int .i64 0]) rfl rfl rfl rfl tsz40 (Ones.sl (Ones.int (Ones.int Ones.nil))) rfl rfl HM) ?_
              rintro w1358 HM
              refine ops_ex rfl (guard_none rfl) rfl rfl (ex_assign rfl rfl) ?_
              refine ops_nil ?_
              refine at_then ?_
              refine run_ret ?_
              refine at_then_ret ?_
              replace HM := HM.empty kInt 2 none
              replace HM := (HM.front 2 rfl rfl).drop
              replace HM := (HM.front 2 rfl rfl).drop
              replace HM := HM.front 1 rfl rfl
              have hcb0 := HM.box_at 0 rfl
              replace HM := (HM.front 0 rfl rfl).drop
              have hR := Option.some.inj H
              subst hR
              exact at_retN1 rfl rfl rfl Tryd.underlying40 rfl tsz40 rfl hcb0 ⟨_, rfl, _, rfl, HM⟩
            · replace H := cond_f hb1357 H
              refine run_skip ?_
              refine at_then ?_
              refine run_seq ?_
              refine run_region rfl ?_
              refine ops_ex rfl (guard_none rfl) rfl rfl (ex_loadN (cs := [u1313, (.int .i64 t1309), (.int .i64 a1338)]) rfl rfl Tryd.underlying40 rfl tsz40 rfl ((HM.box_at 1 rfl).sub 0 3 rfl)) ?_
              refine ops_doesS rfl (guard_none rfl) rfl (does_store (vs := [u1313, .int .i64 t1309, .int .i64 a1338]) (cs' := [u1313, .int .i64 t1309, .int .i64 a1338]) rfl rfl rfl rfl tsz40 (Ones.rd (HM.own_rd 2 rfl) (Ones.int (Ones.int Ones.nil))) rfl rfl HM) ?_
              rintro w1360 HM
              refine ops_ex rfl (guard_none rfl) rfl rfl (ex_assign rfl rfl) ?_
              refine ops_nil ?_
              refine at_then ?_
              refine run_ret ?_
              replace HM := (HM.front 1 rfl rfl).drop
              have hcb0 := HM.box_at 0 rfl
              replace HM := (HM.front 0 rfl rfl).drop
              have hR := Option.some.inj H
              subst hR
              exact at_retN1 rfl rfl rfl Tryd.underlying40 rfl tsz40 rfl hcb0 ⟨_, rfl, _, rfl, HM⟩

def impl_ParseRule.f (k : Nat) (x0 : ByteArray) : Option RuleResult := ((impl_readRule.f k x0 (⟨#[32]⟩ : ByteArray)).bind fun t1373 => (bif !t1373.2 then some (⟨5, (⟨([] : List Int), 0, 0⟩ : Rule)⟩ : RuleResult) else some (⟨0, (⟨t1373.1.fKeys, t1373.1.fNeed, t1373.1.fAfter⟩ : Rule)⟩ : RuleResult)))
theorem impl_ParseRule.calls {k : Nat} {x0 : ByteArray}  {w : World} (htab : TabP w)  {r : RuleResult} (H : impl_ParseRule.f k x0 = some r) :
    Calls Tryd.prog 13 ([.string x0] : List Value).toArray w (fun e w_ => ∃ v, e = .returned v ∧ ∃ u0 : Value, v = (.agg #[.int .i64 r.fCode, u0, .int .i64 r.fRule.fNeed, .int .i64 r.fRule.fAfter]) ∧ Mem w [] w_ [own kInt 2 u0 r.fRule.fKeys]) := by
  have HM := Mem.start w
  refine calls_run (N := 15) Tryd.func13 rfl rfl rfl rfl ?_
  unfold impl_ParseRule.f at H
  refine run_seq ?_
  refine run_region rfl ?_
  refine ops_does rfl (guard_none rfl) rfl rfl (does_alloc (cs := [.int .i64 0, .slice none 0 0, .int .i64 0, .int .i64 0]) rfl tz42 rfl HM) ?_
  rintro _ w1372 ⟨b1369, rfl, HM⟩
  refine ops_nil ?_
  refine at_then ?_
  refine run_seq ?_
  obtain ⟨t1373, h1374, H⟩ := bind_some H
  refine run_region rfl ?_
  refine ops_ex rfl (guard_none rfl) rfl rfl (ex_move rfl rfl) ?_
  refine ops_does rfl (guard_none rfl) rfl rfl (does_callk rfl callok40 rfl (impl_readRule.calls (x0 := x0) (x1 := (⟨#[32]⟩ : ByteArray)) (HM.tabP htab) h1374)) ?_
  rintro _ w1380 ⟨u1375, rfl, hn⟩
  replace HM : Mem w [] w1380 [own kInt 2 u1375 t1373.1.fKeys, box b1369 42 [.int .i64 0, .slice none 0 0, .int .i64 0, .int .i64 0]] := HM.call hn
  refine ops_ex rfl (guard_none rfl) rfl rfl (ex_move rfl rfl) ?_
  refine ops_ex rfl (guard_none rfl) rfl rfl (ex_extract rfl rfl rfl) ?_
  refine ops_ex rfl (guard_none rfl) rfl rfl (ex_extract rfl rfl rfl) ?_
  refine ops_does rfl (guard_none rfl) rfl rfl (does_alloc (cs := [.slice none 0 0, .int .i64 0, .int .i64 0]) rfl tz40 rfl HM) ?_
  rintro _ w1381 ⟨b1377, rfl, HM⟩
  refine ops_doesS rfl (guard_none rfl) rfl (does_store (vs := [u1375, .int .i64 t1373.1.fNeed, .int .i64 t1373.1.fAfter]) (cs' := [u1375, .int .i64 t1373.1.fNeed, .int .i64 t1373.1.fAfter]) rfl rfl rfl rfl tsz40 (Ones.rd (HM.own_rd 1 rfl) (Ones.int (Ones.int Ones.nil))) rfl rfl HM) ?_
  rintro w1382 HM
  refine ops_ex rfl (guard_none rfl) rfl rfl (ex_assign rfl rfl) ?_
  refine ops_nil ?_
  refine at_then ?_
  refine run_seq ?_
  refine run_seq ?_
  refine run_region rfl ?_
  refine ops_ex rfl (guard_none rfl) rfl rfl (ex_move rfl rfl) ?_
  refine ops_ex rfl (guard_none rfl) rfl rfl (ex_not rfl rfl) ?_
  refine ops_nil ?_
  refine at_then ?_
  refine run_cond (b := !t1373.2) rfl (fun hb1383 => ?_) (fun hb1383 => ?_)
  · replace H := cond_t hb1383 H
    refine run_seq ?_
    refine run_region rfl ?_
    refine ops_ex rfl (guard_none rfl) rfl rfl (ex_build (cells := #[(.int .i64 5), (.slice none 0 0), (.int .i64 0), (.int .i64 0)]) rfl rfl (by kernel_rfl)) ?_
    replace HM := HM.front 2 rfl rfl
    refine ops_doesS rfl (guard_none rfl) rfl (does_store (vs := [.int .i64 5, .slice none 0 0, .int .i64 0, .int .i64 0]) (cs' := [.int .i64 5, .slice none 0 0, .int .i64 0, .int .i64 0]) rfl rfl rfl rfl tsz42 (Ones.int (Ones.sl (Ones.int (Ones.int Ones.nil)))) rfl rfl HM) ?_
    rintro w1384 HM
    refine ops_nil ?_
    refine at_then ?_
    refine run_ret ?_
    refine at_then_ret ?_
    replace HM := HM.empty kInt 2 none
    replace HM := (HM.front 2 rfl rfl).drop
    replace HM := (HM.front 2 rfl rfl).drop
    replace HM := HM.front 1 rfl rfl
    have hcb0 := HM.box_at 0 rfl
    replace HM := (HM.front 0 rfl rfl).drop
    have hR := Option.some.inj H
    subst hR
    exact at_retN rfl rfl Tryd.underlying42 rfl tsz42 rfl hcb0 ⟨_, rfl, _, rfl, HM⟩
  · replace H := cond_f hb1383 H
    refine run_skip ?_
    refine at_then ?_
    refine run_seq ?_
    refine run_region rfl ?_
    refine ops_ex rfl (guard_none rfl) rfl rfl (ex_loadN (cs := [u1375, (.int .i64 t1373.1.fNeed), (.int .i64 t1373.1.fAfter)]) rfl rfl Tryd.underlying40 rfl tsz40 rfl ((HM.box_at 0 rfl).sub 0 3 rfl)) ?_
    refine ops_ex rfl (guard_none rfl) rfl rfl (ex_build1 (fun u1375 => [(1, .agg #[u1375, (.int .i64 t1373.1.fNeed), (.int .i64 t1373.1.fAfter)])]) (fun u1375 => #[.int .i64 0, u1375, .int .i64 t1373.1.fNeed, .int .i64 t1373.1.fAfter]) rfl rfl (fun _ _ _ => by kernel_rfl) (HM.own_rd 1 rfl).isSl) ?_
    replace HM := HM.front 2 rfl rfl
    refine ops_doesS rfl (guard_none rfl) rfl (does_store (vs := [.int .i64 0, u1375, .int .i64 t1373.1.fNeed, .int .i64 t1373.1.fAfter]) (cs' := [.int .i64 0, u1375, .int .i64 t1373.1.fNeed, .int .i64 t1373.1.fAfter]) rfl rfl rfl rfl tsz42 (Ones.int (Ones.rd (HM.own_rd 2 rfl) (Ones.int (Ones.int Ones.nil)))) rfl rfl HM) ?_
    rintro w1386 HM
    refine ops_nil ?_
    refine at_then ?_
    refine run_ret ?_
    replace HM := (HM.front 1 rfl rfl).drop
    have hcb0 := HM.box_at 0 rfl
    replace HM := (HM.front 0 rfl rfl).drop
    have hR := Option.some.inj H
    subst hR
    exact at_retN rfl rfl Tryd.underlying42 rfl tsz42 rfl hcb0 ⟨_, rfl, _, rfl, HM⟩

def laws_eqInt64S.l0 (x0 : List Int) (x1 : List Int) : Nat → Int → Option (Bool ⊕ Unit)
  | 0, _ => none
  | k + 1, a1460 => (bif (decide (a1460 < (x0.length : Int))) then (chk (idxOk a1460 x0.length) (chk (idxOk a1460 x1.length) (bif ((gt x0 a1460) != (gt x1 a1460)) then some (.inl false) else laws_eqInt64S.l0 x0 x1 k (wrap64 (a1460 + 1))))) else some (.inr ()))
theorem laws_eqInt64S.l0_z (x0 : List Int) (x1 : List Int) (a1460 : Int) : laws_eqInt64S.l0 x0 x1 0 a1460 = none := rfl
theorem laws_eqInt64S.l0_s (x0 : List Int) (x1 : List Int) (k : Nat) (a1460 : Int) : laws_eqInt64S.l0 x0 x1 (k + 1) a1460 = (bif (decide (a1460 < (x0.length : Int))) then (chk (idxOk a1460 x0.length) (chk (idxOk a1460 x1.length) (bif ((gt x0 a1460) != (gt x1 a1460)) then some (.inl false) else laws_eqInt64S.l0 x0 x1 k (wrap64 (a1460 + 1))))) else some (.inr ())) := rfl
def laws_eqInt64S.f (k : Nat) (x0 : List Int) (x1 : List Int) : Option Bool := (bif ((x0.length : Int) != (x1.length : Int)) then some false else ((laws_eqInt64S.l0 x0 x1 k 0).bind fun o1452 => thn o1452 (fun r => some r) (fun _ => some true)))
theorem laws_eqInt64S.calls {k : Nat} {x0 : List Int} {x1 : List Int} {p0 : Value} {p1 : Value} {w : World} (hp0 : RdS kInt w p0 x0) (hp1 : RdS kInt w p1 x1) {r : Bool} (H : laws_eqInt64S.f k x0 x1 = some r) :
    Calls Tryd.prog 88 ([p0, p1] : List Value).toArray w (fun e w_ => ∃ v, e = .returned v ∧ v = (.bool r) ∧ Mem w [] w_ []) := by
  have HM := Mem.start w
  refine calls_run (N := 26) Tryd.func88 rfl rfl rfl rfl ?_
  unfold laws_eqInt64S.f at H
  refine run_seq ?_
  refine run_region rfl ?_
  refine ops_ex rfl (guard_none rfl) rfl rfl (ex_assign rfl rfl) ?_
  refine ops_nil ?_
  refine at_then ?_
  refine run_seq ?_
  refine run_seq ?_
  refine run_region rfl ?_
  refine ops_ex rfl (guard_none rfl) rfl rfl (ex_move rfl rfl) ?_
  refine ops_ex rfl (guard_none rfl) rfl rfl (ex_len (d := kInt) (xs := x0) rfl rfl Tryd.underlying38 hp0) ?_
  refine ops_ex rfl (guard_none rfl) rfl rfl (ex_move rfl rfl) ?_
  refine ops_ex rfl (guard_none rfl) rfl rfl (ex_len (d := kInt) (xs := x1) rfl rfl Tryd.underlying38 hp1) ?_
  refine ops_ex rfl (guard_none rfl) rfl rfl (ex_neq rfl rfl rfl) ?_
  refine ops_nil ?_
  refine at_then ?_
  refine run_cond (b := ((x0.length : Int) != (x1.length : Int))) rfl (fun hb1432 => ?_) (fun hb1432 => ?_)
  · replace H := cond_t hb1432 H
    refine run_seq ?_
    refine run_region rfl ?_
    refine ops_ex rfl (guard_none rfl) rfl rfl (ex_assign rfl rfl) ?_
    refine ops_nil ?_
    refine at_then ?_
    refine run_ret ?_
    refine at_then_ret ?_
    have hR := Option.some.inj H
    subst hR
    exact at_ret1 rfl rfl ⟨_, rfl, rfl, HM⟩
  · replace H := cond_f hb1432 H
    refine run_skip ?_
    refine at_then ?_
    obtain ⟨o1452, ho1453, H⟩ := bind_some H
    refine run_mid (fun ρ_ w_ => Sum.inr () = o1452 ∧ ρ_ = [] ∧ Mem w [] w_ []) ?_ ?_
    · skip
      refine run_seq ?_
      refine run_region rfl ?_
      refine ops_ex rfl (guard_none rfl) rfl rfl (ex_assign rfl rfl) ?_
      refine ops_nil ?_
      refine at_then ?_
      refine run_block ?_
      refine run_loop (fun k_ ρ_ w_ => ∃ a1460 : Int, laws_eqInt64S.l0 x0 x1 k_ a1460 = some o1452 ∧ ρ_ = [(0, p0), (1, p1), (5, .int .i64 a1460)] ∧ Mem w [] w_ []) k (ρ1 := [(0, p0), (1, p1), (5, .int .i64 0)]) ⟨_, ho1453, rfl, HM⟩ (Sub.cons rfl (Sub.cons rfl (Sub.cons rfl Sub.nil))) ?_
      clear HM ho1453
      rintro k1467 _ w1468 ⟨a1460, ho1453, rfl, HM⟩
      obtain _ | k1467 := k1467
      · exact nomatch ((laws_eqInt64S.l0_z x0 x1 a1460).symm.trans ho1453)
      replace ho1453 := (laws_eqInt64S.l0_s x0 x1 k1467 a1460).symm.trans ho1453
      refine run_seq ?_
      refine run_seq ?_
      refine run_region rfl ?_
      refine ops_ex rfl (guard_none rfl) rfl rfl (ex_move rfl rfl) ?_
      refine ops_ex rfl (guard_none rfl) rfl rfl (ex_move rfl rfl) ?_
      refine ops_ex rfl (guard_none rfl) rfl rfl (ex_len (d := kInt) (xs := x0) rfl rfl Tryd.underlying38 hp0) ?_
      refine ops_ex rfl (guard_none rfl) rfl rfl (ex_lss rfl rfl rfl) ?_
      refine ops_nil ?_
      refine at_then ?_
      refine run_cond (b := (decide (a1460 < (x0.length : Int)))) rfl (fun hb1469 => ?_) (fun hb1469 => ?_)
      · replace ho1453 := cond_t hb1469 ho1453
        refine run_skip ?_
        refine at_then ?_
        refine run_seq ?_
        refine run_block ?_
        refine run_seq ?_
        obtain ⟨e1470, ho1453⟩ := chk_some ho1453
        obtain ⟨e1472, ho1453⟩ := chk_some ho1453
        refine run_drawf (fun w_ => Mem w [] w_ []) [(0, true), (1, true), (2, true), (3, true), (4, true), (5, true), (6, true), (7, true), (8, true)] mixed rfl rfl (by kernel_rfl) ?_
        replace HM := HM.grow (fr_drew _)
        have hS := Mem.suf (M := []) HM
        refine drwp_take rfl (guard_none rfl) rfl rfl (fun w_ hS_ => (ex_move rfl rfl)) hS ?_
        refine drwp_take rfl (guard_none rfl) rfl rfl (fun w_ hS_ => (ex_move rfl rfl)) hS ?_
        have hc1471 : CellsAt _ (sb p0) (so p0 + (a1460).toNat * 1) [(.int .i64 (gt x0 a1460))] := rd_plain hp0 e1470
        refine drwp_take rfl (guard_none rfl) rfl rfl (fun w_ hS_ => (ex_indexAddr (d := kInt) rfl rfl rfl Tryd.underlying38 tsz2 hp0 (idx_lo e1470) (idx_hi e1470))) hS ?_
        refine drwp_take rfl (guard_none rfl) rfl rfl (fun w_ hS_ => (ex_load1 rfl rfl Tryd.underlying2 rfl ((hS_.at_ hc1471) 0 _ rfl))) hS ?_
        refine drwp_take rfl (guard_none rfl) rfl rfl (fun w_ hS_ => (ex_move rfl rfl)) hS ?_
        refine drwp_take rfl (guard_none rfl) rfl rfl (fun w_ hS_ => (ex_move rfl rfl)) hS ?_
        have hc1473 : CellsAt _ (sb p1) (so p1 + (a1460).toNat * 1) [(.int .i64 (gt x1 a1460))] := rd_plain hp1 e1472
        refine drwp_take rfl (guard_none rfl) rfl rfl (fun w_ hS_ => (ex_indexAddr (d := kInt) rfl rfl rfl Tryd.underlying38 tsz2 hp1 (idx_lo e1472) (idx_hi e1472))) hS ?_
        refine drwp_take rfl (guard_none rfl) rfl rfl (fun w_ hS_ => (ex_load1 rfl rfl Tryd.underlying2 rfl ((hS_.at_ hc1473) 0 _ rfl))) hS ?_
        refine drwp_take rfl (guard_none rfl) rfl rfl (fun w_ hS_ => (ex_neq rfl rfl rfl)) hS ?_
        refine drwp_done ?_
        refine at_then ?_
        refine run_cond (b := ((gt x0 a1460) != (gt x1 a1460))) rfl (fun hb1474 => ?_) (fun hb1474 => ?_)
        · replace ho1453 := cond_t hb1474 ho1453
          refine run_seq ?_
          refine run_region rfl ?_
          refine ops_ex rfl (guard_none rfl) rfl rfl (ex_assign rfl rfl) ?_
          refine ops_nil ?_
          refine at_then ?_
          refine run_ret ?_
          refine at_block_ret ?_
          refine at_then_ret ?_
          refine at_then_ret ?_
          refine at_block_ret ?_
          refine at_then_ret ?_
          have hR := Option.some.inj ho1453
          subst hR
          have hT := thn_inl H
          have hR := Option.some.inj hT
          subst hR
          exact at_ret1 rfl rfl ⟨_, rfl, rfl, HM⟩
        · replace ho1453 := cond_f hb1474 ho1453
          refine run_skip ?_
          refine at_block ?_
          refine at_then ?_
          refine run_region rfl ?_
          refine ops_ex rfl (guard_none rfl) rfl rfl (ex_move rfl rfl) ?_
          refine ops_ex rfl (guard_none rfl) rfl rfl (ex_add rfl rfl rfl) ?_
          refine ops_ex rfl (guard_none rfl) rfl rfl (ex_assign rfl rfl) ?_
          refine ops_nil ?_
          exact at_again k1467 (ρ1 := [(0, p0), (1, p1), (5, .int .i64 (wrap64 (a1460 + 1)))]) (Nat.lt_succ_self _) ⟨_, ho1453, rfl, HM⟩ (Sub.cons rfl (Sub.cons rfl (Sub.cons rfl Sub.nil)))
      · replace ho1453 := cond_f hb1469 ho1453
        refine run_exit ?_
        refine at_then_exit ?_
        refine at_then_exit ?_
        refine at_block_exit ?_
        exact at_mid (ρ' := []) ⟨(Option.some.inj ho1453), rfl, HM⟩ Sub.nil
    · rintro _ w1475 ⟨rfl, rfl, HM⟩
      replace H := (thn_inr H)
      refine run_seq ?_
      refine run_region rfl ?_
      refine ops_ex rfl (guard_none rfl) rfl rfl (ex_assign rfl rfl) ?_
      refine ops_nil ?_
      refine at_then ?_
      refine run_ret ?_
      have hR := Option.some.inj H
      subst hR
      exact at_ret1 rfl rfl ⟨_, rfl, rfl, HM⟩

def laws_eqRule.f (k : Nat) (x0 : Rule) (x1 : Rule) : Option Bool := ((laws_eqInt64S.f k x0.fKeys x1.fKeys).bind fun t1496 => (bif !t1496 then some false else (bif (x0.fNeed != x1.fNeed) then some false else (bif (x0.fAfter != x1.fAfter) then some false else some true))))
theorem laws_eqRule.calls {k : Nat} {x0 : Rule} {x1 : Rule} {p0_0 : Value} {p1_0 : Value} {w : World} (hp0_0 : RdS kInt w p0_0 x0.fKeys) (hp1_0 : RdS kInt w p1_0 x1.fKeys) {r : Bool} (H : laws_eqRule.f k x0 x1 = some r) :
    Calls Tryd.prog 41 ([.agg #[p0_0, (.int .i64 x0.fNeed), (.int .i64 x0.fAfter)], .agg #[p1_0, (.int .i64 x1.fNeed), (.int .i64 x1.fAfter)]] : List Value).toArray w (fun e w_ => ∃ v, e = .returned v ∧ v = (.bool r) ∧ Mem w [] w_ []) := by
  have HM := Mem.start w
  refine calls_run (N := 21) Tryd.func41 rfl rfl rfl rfl ?_
  unfold laws_eqRule.f at H
  refine run_seq ?_
  refine run_region rfl ?_
  refine ops_does rfl (guard_none rfl) rfl rfl (does_box (cs := [p0_0, .int .i64 x0.fNeed, .int .i64 x0.fAfter]) rfl rfl rfl HM) ?_
  rintro _ w1491 ⟨b1485, rfl, HM⟩
  refine ops_does rfl (guard_none rfl) rfl rfl (does_box (cs := [p1_0, .int .i64 x1.fNeed, .int .i64 x1.fAfter]) rfl rfl rfl HM) ?_
  rintro _ w1492 ⟨b1488, rfl, HM⟩
  refine ops_ex rfl (guard_none rfl) rfl rfl (ex_assign rfl rfl) ?_
  refine ops_nil ?_
  refine at_then ?_
  refine run_seq ?_
  refine run_seq ?_
  obtain ⟨t1496, h1497, H⟩ := bind_some H
  refine run_region rfl ?_
  refine ops_ex rfl (guard_none rfl) rfl rfl (ex_fieldAddr (off' := 0) rfl rfl Tryd.underlying40 rfl tsz38 rfl) ?_
  refine ops_ex rfl (guard_none rfl) rfl rfl (ex_load1 rfl rfl Tryd.underlying38 rfl ((HM.box_at 1 rfl) 0 _ rfl)) ?_
  refine ops_ex rfl (guard_none rfl) rfl rfl (ex_fieldAddr (off' := 0) rfl rfl Tryd.underlying40 rfl tsz38 rfl) ?_
  refine ops_ex rfl (guard_none rfl) rfl rfl (ex_load1 rfl rfl Tryd.underlying38 rfl ((HM.box_at 0 rfl) 0 _ rfl)) ?_
  refine ops_does rfl (guard_none rfl) rfl rfl (does_callk rfl callok88 rfl (laws_eqInt64S.calls (x0 := x0.fKeys) (x1 := x1.fKeys) (HM.rd hp0_0) (HM.rd hp1_0) h1497)) ?_
  rintro _ w1498 ⟨rfl, hn⟩
  replace HM : Mem w [] w1498 [box b1488 40 [p1_0, .int .i64 x1.fNeed, .int .i64 x1.fAfter], box b1485 40 [p0_0, .int .i64 x0.fNeed, .int .i64 x0.fAfter]] := HM.call hn
  refine ops_ex rfl (guard_none rfl) rfl rfl (ex_not rfl rfl) ?_
  refine ops_nil ?_
  refine at_then ?_
  refine run_cond (b := !t1496) rfl (fun hb1499 => ?_) (fun hb1499 => ?_)
  · replace H := cond_t hb1499 H
    refine run_seq ?_
    refine run_region rfl ?_
    refine ops_ex rfl (guard_none rfl) rfl rfl (ex_assign rfl rfl) ?_
    refine ops_nil ?_
    refine at_then ?_
    refine run_ret ?_
    refine at_then_ret ?_
    replace HM := (HM.front 0 rfl rfl).drop
    replace HM := (HM.front 0 rfl rfl).drop
    have hR := Option.some.inj H
    subst hR
    exact at_ret1 rfl rfl ⟨_, rfl, rfl, HM⟩
  · replace H := cond_f hb1499 H
    refine run_skip ?_
    refine at_then ?_
    refine run_seq ?_
    refine run_seq ?_
    refine run_region rfl ?_
    refine ops_ex rfl (guard_none rfl) rfl rfl (ex_fieldAddr (off' := 1) rfl rfl Tryd.underlying40 rfl tsz2 rfl) ?_
    refine ops_ex rfl (guard_none rfl) rfl rfl (ex_load1 rfl rfl Tryd.underlying2 rfl ((HM.box_at 1 rfl) 1 _ rfl)) ?_
    refine ops_ex rfl (guard_none rfl) rfl rfl (ex_fieldAddr (off' := 1) rfl rfl Tryd.underlying40 rfl tsz2 rfl) ?_
    refine ops_ex rfl (guard_none rfl) rfl rfl (ex_load1 rfl rfl Tryd.underlying2 rfl ((HM.box_at 0 rfl) 1 _ rfl)) ?_
    refine ops_ex rfl (guard_none rfl) rfl rfl (ex_neq rfl rfl rfl) ?_
    refine ops_nil ?_
    refine at_then ?_
    refine run_cond (b := (x0.fNeed != x1.fNeed)) rfl (fun hb1501 => ?_) (fun hb1501 => ?_)
    · replace H := cond_t hb1501 H
      refine run_seq ?_
      refine run_region rfl ?_
      refine ops_ex rfl (guard_none rfl) rfl rfl (ex_assign rfl rfl) ?_
      refine ops_nil ?_
      refine at_then ?_
      refine run_ret ?_
      refine at_then_ret ?_
      replace HM := (HM.front 0 rfl rfl).drop
      replace HM := (HM.front 0 rfl rfl).drop
      have hR := Option.some.inj H
      subst hR
      exact at_ret1 rfl rfl ⟨_, rfl, rfl, HM⟩
    · replace H := cond_f hb1501 H
      refine run_skip ?_
      refine at_then ?_
      refine run_seq ?_
      refine run_seq ?_
      refine run_region rfl ?_
      refine ops_ex rfl (guard_none rfl) rfl rfl (ex_fieldAddr (off' := 2) rfl rfl Tryd.underlying40 rfl tsz2 rfl) ?_
      refine ops_ex rfl (guard_none rfl) rfl rfl (ex_load1 rfl rfl Tryd.underlying2 rfl ((HM.box_at 1 rfl) 2 _ rfl)) ?_
      refine ops_ex rfl (guard_none rfl) rfl rfl (ex_fieldAddr (off' := 2) rfl rfl Tryd.underlying40 rfl tsz2 rfl) ?_
      refine ops_ex rfl (guard_none rfl) rfl rfl (ex_load1 rfl rfl Tryd.underlying2 rfl ((HM.box_at 0 rfl) 2 _ rfl)) ?_
      refine ops_ex rfl (guard_none rfl) rfl rfl (ex_neq rfl rfl rfl) ?_
      refine ops_nil ?_
      refine at_then ?_
      refine run_cond (b := (x0.fAfter != x1.fAfter)) rfl (fun hb1502 => ?_) (fun hb1502 => ?_)
      · replace H := cond_t hb1502 H
        refine run_seq ?_
        refine run_region rfl ?_
        refine ops_ex rfl (guard_none rfl) rfl rfl (ex_assign rfl rfl) ?_
        refine ops_nil ?_
        refine at_then ?_
        refine run_ret ?_
        refine at_then_ret ?_
        replace HM := (HM.front 0 rfl rfl).drop
        replace HM := (HM.front 0 rfl rfl).drop
        have hR := Option.some.inj H
        subst hR
        exact at_ret1 rfl rfl ⟨_, rfl, rfl, HM⟩
      · replace H := cond_f hb1502 H
        refine run_skip ?_
        refine at_then ?_
        refine run_seq ?_
        refine run_region rfl ?_
        refine ops_ex rfl (guard_none rfl) rfl rfl (ex_assign rfl rfl) ?_
        refine ops_nil ?_
        refine at_then ?_
        refine run_ret ?_
        replace HM := (HM.front 0 rfl rfl).drop
        replace HM := (HM.front 0 rfl rfl).drop
        have hR := Option.some.inj H
        subst hR
        exact at_ret1 rfl rfl ⟨_, rfl, rfl, HM⟩
end Go.Proofs.YtcpacdbdehphkaaDoor.Zk
