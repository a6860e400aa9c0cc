/- What functions of the program compute, each as a plain function, and that they do. Conditions: as each theorem states them. -/
import Derived.Test.YtcpacdbdehphkaaGreatDoorParseTxZkF4
namespace Go.Proofs.YtcpacdbdehphkaaGreatDoor.Zk
open Go Go.RowKit Go.IntWalk Go.Proofs
set_option linter.unusedVariables false
set_option linter.unusedSimpArgs false
set_option maxRecDepth 100000
set_option maxHeartbeats 4000000
def strings_Join.f (k : Nat) (x0 : List ByteArray) (x1 : ByteArray) : Option ByteArray := (chk (leB x0.length 140737488355328 && leB (Lib.join (x0.map (·.data.toList)) x1.data.toList).length 140737488355328) (some (⟨(Lib.join (x0.map (·.data.toList)) x1.data.toList).toArray⟩ : ByteArray)))
theorem strings_Join.calls {k : Nat} {x0 : List ByteArray} {x1 : ByteArray} {p0 : Value} {w : World} (hp0 : RdS kStr w p0 x0) {r : ByteArray} (H : strings_Join.f k x0 x1 = some r) :
    Calls Tryz.prog 54 ([p0, .string x1] : List Value).toArray w (fun e w_ => ∃ v, e = .returned v ∧ v = (.string r) ∧ Mem w [] w_ []) := by
  obtain ⟨h, H⟩ := chk_some H
  have hR := Option.some.inj H
  subst hR
  rw [Bool.and_eq_true] at h
  have hm : ∀ w_, Below w.heap.size w w_ → Mem w [] w_ [] := fun w_ hb => ⟨Fr.of_below hb, [], .nil, List.nodup_nil, by simp⟩
  obtain ⟨A, c, rfl, hc, hA⟩ := hp0
  rcases hA with rfl | ⟨b, o, rfl, hA⟩
  · exact (Tryz.strings_Join_none A c x1 w).mono fun e w_ ⟨he, hw⟩ => ⟨_, he, rfl, hm _ (hw ▸ Below.refl _ _)⟩
  · cases hx : x0 with
    | nil => subst hx; exact (Tryz.strings_Join_none _ c x1 w).mono fun e w_ ⟨he, hw⟩ => ⟨_, he, rfl, hm _ (hw ▸ Below.refl _ _)⟩
    | cons a l =>
      rw [← hx]
      have hcell : ∀ (j : Nat) x, x0[j]? = some x → w.cell? ⟨b, o + j, none⟩ = some (.string x) := fun j x hj => by
        obtain ⟨hlt, e1⟩ := List.getElem?_eq_some_iff.1 hj
        obtain ⟨cs, h2, h3⟩ := hA j hlt
        have h2' : cs = [Value.string x0[j]] := h2
        subst h2'
        have h4 : w.cell? ⟨b, o + j * 1 + 0, none⟩ = some (.string x0[j]) := h3 0 _ rfl
        rw [e1] at h4
        simpa using h4
      exact (Tryz.strings_Join b o c x0 x1 w hcell (World.block_lt_of_cell? w _ (hcell 0 a (by rw [hx]; rfl))) (leB_le h.1) hc (leB_le h.2)).mono fun e w_ ⟨he, hw⟩ => ⟨_, he, rfl, hm _ hw⟩

def impl_joined.l0 (x0 : List Int) : Nat → (List ByteArray) → Int → Option ((List ByteArray))
  | 0, _, _ => none
  | k + 1, a3298, a3300 => (bif (decide (a3300 < (x0.length : Int))) then (chk (idxOk a3300 x0.length) ((impl_dec.f k (gt x0 a3300)).bind fun t3317 => (chk (leB ((a3298.length + ([t3317] : List ByteArray).length) * 16) 140737488355328) (impl_joined.l0 x0 k (a3298 ++ ([t3317] : List ByteArray)) (wrap64 (a3300 + 1)))))) else some a3298)
theorem impl_joined.l0_z (x0 : List Int) (a3298 : List ByteArray) (a3300 : Int) : impl_joined.l0 x0 0 a3298 a3300 = none := rfl
theorem impl_joined.l0_s (x0 : List Int) (k : Nat) (a3298 : List ByteArray) (a3300 : Int) : impl_joined.l0 x0 (k + 1) a3298 a3300 = (bif (decide (a3300 < (x0.length : Int))) then (chk (idxOk a3300 x0.length) ((impl_dec.f k (gt x0 a3300)).bind fun t3317 => (chk (leB ((a3298.length + ([t3317] : List ByteArray).length) * 16) 140737488355328) (impl_joined.l0 x0 k (a3298 ++ ([t3317] : List ByteArray)) (wrap64 (a3300 + 1)))))) else some a3298) := rfl
def impl_joined.f (k : Nat) (x0 : List Int) (x1 : ByteArray) : Option ByteArray := ((impl_joined.l0 x0 k ([] : List ByteArray) 0).bind (fun a3282 => ((strings_Join.f k a3282 x1).bind fun t3329 => some t3329)))
theorem impl_joined.calls {k : Nat} {x0 : List Int} {x1 : ByteArray} {p0 : Value} {w : World} (htab : TabP w) (hp0 : RdS kInt w p0 x0) {r : ByteArray} (H : impl_joined.f k x0 x1 = some r) :
    Calls Tryz.prog 75 ([p0, .string x1] : List Value).toArray w (fun e w_ => ∃ v, e = .returned v ∧ v = (.string r) ∧ Mem w [] w_ []) := by
  have HM := Mem.start w
  refine calls_run (N := 24) Tryz.func75 rfl rfl rfl rfl ?_
  unfold impl_joined.f at H
  refine run_seq ?_
  refine run_region rfl ?_
  refine ops_ex rfl (guard_none rfl) rfl rfl (ex_assign rfl rfl) ?_
  refine ops_nil ?_
  refine at_then ?_
  refine run_seq ?_
  refine run_region rfl ?_
  refine ops_does rfl (guard_none rfl) rfl rfl (does_lit (e := 9) (cs := []) (xs := ([] : List ByteArray)) kStr rfl rfl (fun _ => by kernel_rfl) rfl rfl (fun _ _ h => by have h' : _ = [] := h; subst h'; exact .nil) HM.emp) ?_
  rintro v3240 w3243 HM
  refine ops_ex rfl (guard_none rfl) rfl rfl (ex_assign rfl rfl) ?_
  refine ops_nil ?_
  refine at_then ?_
  obtain ⟨o3284, ho3285, H⟩ := bind_some H
  refine run_mid (fun ρ_ w_ => ∃ v3281 : Value, ∃ a3282 : List ByteArray, a3282 = o3284 ∧ ρ_ = [(1, .string x1), (5, v3281)] ∧ Mem w [] w_ [own kStr 9 v3281 a3282]) ?_ ?_
  · clear H
    refine run_seq ?_
    refine run_region rfl ?_
    refine ops_ex rfl (guard_none rfl) rfl rfl (ex_move rfl rfl) ?_
    refine ops_ex rfl (guard_none rfl) rfl rfl (ex_len (d := kInt) (xs := x0) rfl rfl Tryz.underlying42 hp0) ?_
    refine ops_ex rfl (guard_none rfl) rfl rfl (ex_move rfl rfl) ?_
    refine ops_nil ?_
    refine at_then ?_
    refine run_block ?_
    refine run_loop (fun k_ ρ_ w_ => ∃ v3297 : Value, ∃ a3298 : List ByteArray, ∃ a3300 : Int, impl_joined.l0 x0 k_ a3298 a3300 = some o3284 ∧ ρ_ = [(1, .string x1), (5, v3297), (9, p0), (10, .int .i64 (x0.length : Int)), (11, .int .i64 a3300)] ∧ Mem w [] w_ [own kStr 9 v3297 a3298]) k (ρ1 := [(1, .string x1), (5, v3240), (9, p0), (10, .int .i64 (x0.length : Int)), (11, .int .i64 0)]) ⟨_, _, _, ho3285, rfl, HM⟩ (Sub.cons rfl (Sub.cons rfl (Sub.cons rfl (Sub.cons rfl (Sub.cons rfl Sub.nil))))) ?_
    clear HM ho3285
    rintro k3312 _ w3313 ⟨v3297, a3298, a3300, ho3285, rfl, HM⟩
    obtain _ | k3312 := k3312
    · exact nomatch ((impl_joined.l0_z x0 a3298 a3300).symm.trans ho3285)
    replace ho3285 := (impl_joined.l0_s x0 k3312 a3298 a3300).symm.trans ho3285
    refine run_seq ?_
    refine run_region rfl ?_
    refine ops_ex rfl (guard_none rfl) rfl rfl (ex_lss rfl rfl rfl) ?_
    refine ops_nil ?_
    refine at_then ?_
    refine run_seq ?_
    refine run_cond (b := (decide (a3300 < (x0.length : Int)))) rfl (fun hb3314 => ?_) (fun hb3314 => ?_)
    · replace ho3285 := cond_t hb3314 ho3285
      refine run_skip ?_
      refine at_then ?_
      refine run_seq ?_
      refine run_block ?_
      refine run_seq ?_
      obtain ⟨e3315, ho3285⟩ := chk_some ho3285
      refine run_region rfl ?_
      have hc3316 : CellsAt _ (sb p0) (so p0 + (a3300).toNat * 1) [(.int .i64 (gt x0 a3300))] := rd_plain hp0 e3315
      refine ops_ex rfl (guard_none rfl) rfl rfl (ex_indexAddr (d := kInt) rfl rfl rfl Tryz.underlying42 tsz2 hp0 (idx_lo e3315) (idx_hi e3315)) ?_
      refine ops_ex rfl (guard_none rfl) rfl rfl (ex_load1 rfl rfl Tryz.underlying2 rfl ((HM.at_ hc3316) 0 _ rfl)) ?_
      refine ops_ex rfl (guard_none rfl) rfl rfl (ex_assign rfl rfl) ?_
      refine ops_nil ?_
      refine at_then ?_
      obtain ⟨t3317, h3318, ho3285⟩ := bind_some ho3285
      obtain ⟨e3322, ho3285⟩ := chk_some ho3285
      refine run_region rfl ?_
      refine ops_ex rfl (guard_none rfl) rfl rfl (ex_move rfl rfl) ?_
      refine ops_ex rfl (guard_none rfl) rfl rfl (ex_move rfl rfl) ?_
      refine ops_does rfl (guard_none rfl) rfl rfl (does_callk rfl callok45 rfl (impl_dec.calls (x0 := (gt x0 a3300)) (HM.tabP htab) h3318)) ?_
      rintro _ w3325 ⟨rfl, hn⟩
      replace HM : Mem w [] w3325 [own kStr 9 v3297 a3298] := HM.call hn
      refine ops_does rfl (guard_none rfl) rfl rfl (does_lit (e := 9) (cs := [.string t3317]) (xs := ([t3317] : List ByteArray)) kStr rfl rfl (fun _ => by kernel_rfl) rfl rfl (fun _ _ h => by have h' : _ = [] := h; subst h'; exact (Elems.cons (d := kStr) (x := t3317) (f := []) ⟨rfl, rfl⟩ .nil)) HM.emp) ?_
      rintro v3319 w3326 HM
      replace HM := HM.front 1 rfl rfl
      refine ops_does rfl (guard_none rfl) rfl rfl (does_appendR kStr flat_plain rfl rfl rfl Tryz.underlying36 tsz9 rfl tby9 tz9 rfl rfl (leB_le e3322) (HM.own_rd 1 rfl) HM) ?_
      rintro v3323 w3327 HM
      refine ops_ex rfl (guard_none rfl) rfl rfl (ex_assign rfl rfl) ?_
      refine ops_nil ?_
      refine at_block ?_
      refine at_then ?_
      refine run_region rfl ?_
      refine ops_ex rfl (guard_none rfl) rfl rfl (ex_add rfl rfl rfl) ?_
      refine ops_ex rfl (guard_none rfl) rfl rfl (ex_move rfl rfl) ?_
      refine ops_nil ?_
      replace HM := (HM.front 1 rfl rfl).drop
      exact at_again k3312 (ρ1 := [(1, .string x1), (5, v3323), (9, p0), (10, .int .i64 (x0.length : Int)), (11, .int .i64 (wrap64 (a3300 + 1)))]) (Nat.lt_succ_self _) ⟨_, _, _, ho3285, rfl, HM⟩ (Sub.cons rfl (Sub.cons rfl (Sub.cons rfl (Sub.cons rfl (Sub.cons rfl Sub.nil)))))
    · replace ho3285 := cond_f hb3314 ho3285
      refine run_exit ?_
      refine at_then_exit ?_
      refine at_then_exit ?_
      refine at_block_exit ?_
      exact at_mid (ρ' := [(1, .string x1), (5, v3297)]) ⟨_, _, (Option.some.inj ho3285), rfl, HM⟩ (Sub.cons rfl (Sub.cons rfl Sub.nil))
  · rintro _ w3328 ⟨v3281, a3282, rfl, rfl, HM⟩
    refine run_seq ?_
    obtain ⟨t3329, h3330, H⟩ := bind_some H
    refine run_region rfl ?_
    refine ops_ex rfl (guard_none rfl) rfl rfl (ex_move rfl rfl) ?_
    refine ops_ex rfl (guard_none rfl) rfl rfl (ex_move rfl rfl) ?_
    refine ops_does rfl (guard_none rfl) rfl rfl (does_callk rfl callok54 rfl (strings_Join.calls (x0 := a3282) (x1 := x1) (HM.own_rd 0 rfl) h3330)) ?_
    rintro _ w3331 ⟨rfl, hn⟩
    replace HM : Mem w [] w3331 [own kStr 9 v3281 a3282] := HM.call hn
    refine ops_ex rfl (guard_none rfl) rfl rfl (ex_assign rfl rfl) ?_
    refine ops_nil ?_
    refine at_then ?_
    refine run_ret ?_
    replace HM := (HM.front 0 rfl rfl).drop
    have hR := Option.some.inj H
    subst hR
    exact at_ret1 rfl rfl ⟨_, rfl, rfl, HM⟩

def impl_ruleText.f (k : Nat) (x0 : Rule) (x1 : ByteArray) : Option ByteArray := ((impl_dec.f k x0.fNeed).bind fun t3346 => (chk (leB (t3346.size + x1.size) 9223372036854775807) (chk (leB ((t3346 ++ x1).size + (⟨#[111, 102]⟩ : ByteArray).size) 9223372036854775807) (chk (leB (((t3346 ++ x1) ++ (⟨#[111, 102]⟩ : ByteArray)).size + x1.size) 9223372036854775807) ((impl_joined.f k x0.fKeys (⟨#[44]⟩ : ByteArray)).bind fun t3351 => (chk (leB ((((t3346 ++ x1) ++ (⟨#[111, 102]⟩ : ByteArray)) ++ x1).size + t3351.size) 9223372036854775807) (bif (x0.fAfter != 0) then (chk (leB (x1.size + (⟨#[97, 102, 116, 101, 114]⟩ : ByteArray).size) 9223372036854775807) (chk (leB ((x1 ++ (⟨#[97, 102, 116, 101, 114]⟩ : ByteArray)).size + x1.size) 9223372036854775807) ((impl_dec.f k x0.fAfter).bind fun t3359 => (chk (leB (((x1 ++ (⟨#[97, 102, 116, 101, 114]⟩ : ByteArray)) ++ x1).size + t3359.size) 9223372036854775807) (chk (leB (((((t3346 ++ x1) ++ (⟨#[111, 102]⟩ : ByteArray)) ++ x1) ++ t3351).size + (((x1 ++ (⟨#[97, 102, 116, 101, 114]⟩ : ByteArray)) ++ x1) ++ t3359).size) 9223372036854775807) (some (((((t3346 ++ x1) ++ (⟨#[111, 102]⟩ : ByteArray)) ++ x1) ++ t3351) ++ (((x1 ++ (⟨#[97, 102, 116, 101, 114]⟩ : ByteArray)) ++ x1) ++ t3359)))))))) else some ((((t3346 ++ x1) ++ (⟨#[111, 102]⟩ : ByteArray)) ++ x1) ++ t3351))))))))
theorem impl_ruleText.calls {k : Nat} {x0 : Rule} {x1 : ByteArray} {p0_0 : Value} {w : World} (htab : TabP w) (hp0_0 : RdS kInt w p0_0 x0.fKeys) {r : ByteArray} (H : impl_ruleText.f k x0 x1 = some r) :
    Calls Tryz.prog 55 ([.agg #[p0_0, (.int .i64 x0.fNeed), (.int .i64 x0.fAfter)], .string x1] : List Value).toArray w (fun e w_ => ∃ v, e = .returned v ∧ v = (.string r) ∧ Mem w [] w_ []) := by
  have HM := Mem.start w
  refine calls_run (N := 32) Tryz.func55 rfl rfl rfl rfl ?_
  unfold impl_ruleText.f at H
  refine run_seq ?_
  refine run_region rfl ?_
  refine ops_does rfl (guard_none rfl) rfl rfl (does_box (cs := [p0_0, .int .i64 x0.fNeed, .int .i64 x0.fAfter]) rfl rfl rfl HM) ?_
  rintro _ w3345 ⟨b3342, rfl, HM⟩
  refine ops_ex rfl (guard_none rfl) rfl rfl (ex_assign rfl rfl) ?_
  refine ops_nil ?_
  refine at_then ?_
  refine run_seq ?_
  obtain ⟨t3346, h3347, H⟩ := bind_some H
  obtain ⟨e3348, H⟩ := chk_some H
  obtain ⟨e3349, H⟩ := chk_some H
  obtain ⟨e3350, H⟩ := chk_some H
  obtain ⟨t3351, h3352, H⟩ := bind_some H
  obtain ⟨e3353, H⟩ := chk_some H
  refine run_drawf (fun w_ => Mem w [] w_ [box b3342 44 [p0_0, .int .i64 x0.fNeed, .int .i64 x0.fAfter]]) [(0, true), (1, true), (3, true), (6, true), (8, true), (9, true), (2, false), (4, true), (5, true), (7, true), (10, false), (11, true), (12, true)] mixed rfl rfl (by kernel_rfl) ?_
  replace HM := HM.grow (fr_drew _)
  have hS := Mem.suf (M := []) HM
  refine drwp_take rfl (guard_none rfl) rfl rfl (fun w_ hS_ => (ex_fieldAddr (off' := 1) rfl rfl Tryz.underlying44 rfl tsz2 rfl)) hS ?_
  refine drwp_take rfl (guard_none rfl) rfl rfl (fun w_ hS_ => (ex_load1 rfl rfl Tryz.underlying2 rfl ((hS_.box_at 0 rfl) 1 _ rfl))) hS ?_
  refine drwp_take rfl (guard_none rfl) rfl rfl (fun w_ hS_ => (ex_move rfl rfl)) hS ?_
  refine drwp_take rfl (guard_none rfl) rfl rfl (fun w_ hS_ => (ex_move rfl rfl)) hS ?_
  refine drwp_take rfl (guard_none rfl) rfl rfl (fun w_ hS_ => (ex_fieldAddr (off' := 0) rfl rfl Tryz.underlying44 rfl tsz42 rfl)) hS ?_
  refine drwp_take rfl (guard_none rfl) rfl rfl (fun w_ hS_ => (ex_load1 rfl rfl Tryz.underlying42 rfl ((hS_.box_at 0 rfl) 0 _ rfl))) hS ?_
  refine drwp_one rfl (guard_none rfl) rfl rfl (does_callk rfl callok45 rfl (impl_dec.calls (x0 := x0.fNeed) (HM.tabP htab) h3347)) ?_
  rintro _ w3354 ⟨rfl, hn⟩
  replace HM : Mem w [] w3354 [box b3342 44 [p0_0, .int .i64 x0.fNeed, .int .i64 x0.fAfter]] := HM.call hn
  refine ⟨Mem.suf (M := []) HM, ?_⟩
  have hS := Mem.suf (M := []) HM
  refine drwp_take rfl (guard_none rfl) rfl rfl (fun w_ hS_ => (ex_sadd rfl rfl rfl (leB_le e3348))) hS ?_
  refine drwp_take rfl (guard_none rfl) rfl rfl (fun w_ hS_ => (ex_sadd rfl rfl rfl (leB_le e3349))) hS ?_
  refine drwp_take rfl (guard_none rfl) rfl rfl (fun w_ hS_ => (ex_sadd rfl rfl rfl (leB_le e3350))) hS ?_
  refine drwp_one rfl (guard_none rfl) rfl rfl (does_callk rfl callok75 rfl (impl_joined.calls (x0 := x0.fKeys) (x1 := (⟨#[44]⟩ : ByteArray)) (HM.tabP htab) (HM.rd hp0_0) h3352)) ?_
  rintro _ w3355 ⟨rfl, hn⟩
  replace HM : Mem w [] w3355 [box b3342 44 [p0_0, .int .i64 x0.fNeed, .int .i64 x0.fAfter]] := HM.call hn
  refine ⟨Mem.suf (M := []) HM, ?_⟩
  have hS := Mem.suf (M := []) HM
  refine drwp_take rfl (guard_none rfl) rfl rfl (fun w_ hS_ => (ex_sadd rfl rfl rfl (leB_le e3353))) hS ?_
  refine drwp_take rfl (guard_none rfl) rfl rfl (fun w_ hS_ => (ex_assign rfl rfl)) hS ?_
  refine drwp_done ?_
  refine at_then ?_
  refine run_seq ?_
  refine run_seq ?_
  refine run_region rfl ?_
  refine ops_ex rfl (guard_none rfl) rfl rfl (ex_fieldAddr (off' := 2) rfl rfl Tryz.underlying44 rfl tsz2 rfl) ?_
  refine ops_ex rfl (guard_none rfl) rfl rfl (ex_load1 rfl rfl Tryz.underlying2 rfl ((HM.box_at 0 rfl) 2 _ rfl)) ?_
  refine ops_ex rfl (guard_none rfl) rfl rfl (ex_neq rfl rfl rfl) ?_
  refine ops_nil ?_
  refine at_then ?_
  refine run_cond (b := (x0.fAfter != 0)) rfl (fun hb3356 => ?_) (fun hb3356 => ?_)
  · replace H := cond_t hb3356 H
    obtain ⟨e3357, H⟩ := chk_some H
    obtain ⟨e3358, H⟩ := chk_some H
    obtain ⟨t3359, h3360, H⟩ := bind_some H
    obtain ⟨e3361, H⟩ := chk_some H
    obtain ⟨e3362, H⟩ := chk_some H
    refine run_region rfl ?_
    refine ops_ex rfl (guard_none rfl) rfl rfl (ex_move rfl rfl) ?_
    refine ops_ex rfl (guard_none rfl) rfl rfl (ex_move rfl rfl) ?_
    refine ops_ex rfl (guard_none rfl) rfl rfl (ex_sadd rfl rfl rfl (leB_le e3357)) ?_
    refine ops_ex rfl (guard_none rfl) rfl rfl (ex_move rfl rfl) ?_
    refine ops_ex rfl (guard_none rfl) rfl rfl (ex_sadd rfl rfl rfl (leB_le e3358)) ?_
    refine ops_ex rfl (guard_none rfl) rfl rfl (ex_fieldAddr (off' := 2) rfl rfl Tryz.underlying44 rfl tsz2 rfl) ?_
    refine ops_ex rfl (guard_none rfl) rfl rfl (ex_load1 rfl rfl Tryz.underlying2 rfl ((HM.box_at 0 rfl) 2 _ rfl)) ?_
    refine ops_does rfl (guard_none rfl) rfl rfl (does_callk rfl callok45 rfl (impl_dec.calls (x0 := x0.fAfter) (HM.tabP htab) h3360)) ?_
    rintro _ w3363 ⟨rfl, hn⟩
    replace HM : Mem w [] w3363 [box b3342 44 [p0_0, .int .i64 x0.fNeed, .int .i64 x0.fAfter]] := HM.call hn
    refine ops_ex rfl (guard_none rfl) rfl rfl (ex_sadd rfl rfl rfl (leB_le e3361)) ?_
    refine ops_ex rfl (guard_none rfl) rfl rfl (ex_sadd rfl rfl rfl (leB_le e3362)) ?_
    refine ops_ex rfl (guard_none rfl) rfl rfl (ex_assign rfl rfl) ?_
    refine ops_nil ?_
    refine at_then ?_
    refine run_seq ?_
    refine run_region rfl ?_
    refine ops_ex rfl (guard_none rfl) rfl rfl (ex_move rfl rfl) ?_
    refine ops_ex rfl (guard_none rfl) rfl rfl (ex_assign rfl rfl) ?_
    refine ops_nil ?_
    refine at_then ?_
    refine run_ret ?_
    replace HM := (HM.front 0 rfl rfl).drop
    have hR := Option.some.inj H
    subst hR
    exact at_ret1 rfl rfl ⟨_, rfl, rfl, HM⟩
  · replace H := cond_f hb3356 H
    refine run_skip ?_
    refine at_then ?_
    refine run_seq ?_
    refine run_region rfl ?_
    refine ops_ex rfl (guard_none rfl) rfl rfl (ex_move rfl rfl) ?_
    refine ops_ex rfl (guard_none rfl) rfl rfl (ex_assign rfl rfl) ?_
    refine ops_nil ?_
    refine at_then ?_
    refine run_ret ?_
    replace HM := (HM.front 0 rfl rfl).drop
    have hR := Option.some.inj H
    subst hR
    exact at_ret1 rfl rfl ⟨_, rfl, rfl, HM⟩

def impl_readRule.f (k : Nat) (x0 : ByteArray) (x1 : ByteArray) : Option (Rule × Bool) := ((strings_Split.f k x0 x1).bind fun t3371 => (bif ((decide (300 < (x0.size : Int))) || (((t3371.length : Int) != 3) && ((t3371.length : Int) != 5))) then some ((⟨([] : List Int), 0, 0⟩ : Rule), false) else (chk (idxOk (0 : Int) t3371.length) (chk (idxOk (2 : Int) t3371.length) ((impl_number.f k (gt t3371 (0 : Int))).bind fun t3387 => ((impl_numbers.f k (gt t3371 (2 : Int)) (⟨#[44]⟩ : ByteArray)).bind fun t3389 => ((bif ((t3371.length : Int) == 5) then (chk (idxOk (4 : Int) t3371.length) ((impl_number.f k (gt t3371 (4 : Int))).bind fun t3421 => some t3421)) else some 0).bind (fun a3416 => ((impl_RuleFault.f k (⟨t3389, t3387, a3416⟩ : Rule)).bind fun t3426 => ((bif (!(t3426 != 0)) then impl_ruleText.f k (⟨t3389, t3387, a3416⟩ : Rule) x1 else some default).bind fun t3428 => (bif ((t3426 != 0) || (!sEq t3428 x0)) then some ((⟨([] : List Int), 0, 0⟩ : Rule), false) else some ((⟨t3389, t3387, a3416⟩ : Rule), true))))))))))))
theorem impl_readRule.calls {k : Nat} {x0 : ByteArray} {x1 : ByteArray}  {w : World} (htab : TabP w)  {r : Rule × Bool} (H : impl_readRule.f k x0 x1 = some r) :
    Calls Tryz.prog 47 ([.string x0, .string x1] : List Value).toArray w (fun e w_ => ∃ v, e = .returned v ∧ ∃ u0 : Value, v = (.tuple #[.agg #[u0, .int .i64 r.1.fNeed, .int .i64 r.1.fAfter], .bool r.2]) ∧ Mem w [] w_ [own kInt 2 u0 r.1.fKeys]) := by
  have HM := Mem.start w
  refine calls_run (N := 54) Tryz.func47 rfl rfl rfl rfl ?_
  unfold impl_readRule.f at H
  refine run_seq ?_
  refine run_region rfl ?_
  refine ops_does rfl (guard_none rfl) rfl rfl (does_alloc (cs := [.slice none 0 0, .int .i64 0, .int .i64 0]) rfl tz44 rfl HM) ?_
  rintro _ w3370 ⟨b3367, rfl, HM⟩
  refine ops_ex rfl (guard_none rfl) rfl rfl (ex_assign rfl rfl) ?_
  refine ops_nil ?_
  refine at_then ?_
  refine run_seq ?_
  obtain ⟨t3371, h3372, H⟩ := bind_some H
  refine run_region rfl ?_
  refine ops_ex rfl (guard_none rfl) rfl rfl (ex_move rfl rfl) ?_
  refine ops_ex rfl (guard_none rfl) rfl rfl (ex_move rfl rfl) ?_
  refine ops_does rfl (guard_none rfl) rfl rfl (does_callk rfl callok21 rfl (strings_Split.calls (x0 := x0) (x1 := x1) (HM.tabP htab) h3372)) ?_
  rintro u3373 w3375 ⟨_, rfl, hn⟩
  replace HM : Mem w [] w3375 [own kStr 9 u3373 t3371, box b3367 44 [.slice none 0 0, .int .i64 0, .int .i64 0]] := HM.call hn
  refine ops_ex rfl (guard_none rfl) rfl rfl (ex_assign rfl rfl) ?_
  refine ops_nil ?_
  refine at_then ?_
  refine run_seq ?_
  refine run_seq ?_
  refine run_meet (fun ρ_ w_ => ρ_ = [(0, .string x0), (1, .string x1), (4, .pointer (some ⟨b3367, 0, none⟩)), (6, u3373), (23, .bool ((decide (300 < (x0.size : Int))) || (((t3371.length : Int) != 3) && ((t3371.length : Int) != 5))))] ∧ Mem w [] w_ [box b3367 44 [.slice none 0 0, .int .i64 0, .int .i64 0], own kStr 9 u3373 t3371]) ?_ ?_
  · skip
    refine run_region rfl ?_
    refine ops_ex rfl (guard_none rfl) rfl rfl (ex_move rfl rfl) ?_
    refine ops_ex rfl (guard_none rfl) rfl rfl (ex_strlen rfl rfl Tryz.underlying9) ?_
    refine ops_ex rfl (guard_none rfl) rfl rfl (ex_gtr rfl rfl rfl) ?_
    refine ops_ex rfl (guard_none rfl) rfl rfl (ex_move rfl rfl) ?_
    refine bool_cases (decide (300 < (x0.size : Int))) (fun hg3377 => ?_) (fun hg3377 => ?_)
    · skip
      refine ops_off rfl (guard_off rfl rfl rfl hg3377) rfl rfl ?_
      refine ops_off rfl (guard_off rfl rfl rfl hg3377) rfl rfl ?_
      refine ops_off rfl (guard_off rfl rfl rfl hg3377) rfl rfl ?_
      refine ops_off rfl (guard_off rfl rfl rfl hg3377) rfl rfl ?_
      refine ops_off rfl (guard_undef rfl rfl rfl) rfl rfl ?_
      refine ops_off rfl (guard_undef rfl rfl rfl) rfl rfl ?_
      refine ops_off rfl (guard_undef rfl rfl rfl) rfl rfl ?_
      refine ops_off rfl (guard_off rfl rfl rfl hg3377) rfl rfl ?_
      have hg3378 : ((decide (300 < (x0.size : Int))) || (((t3371.length : Int) != 3) && ((t3371.length : Int) != 5))) = true := by simp only [hg3377, Bool.and_true, Bool.true_and, Bool.and_false, Bool.false_and, Bool.or_true, Bool.true_or, Bool.or_false, Bool.false_or, Bool.not_true, Bool.not_false, Bool.not_not]
      refine ops_ex (v := .bool ((decide (300 < (x0.size : Int))) || (((t3371.length : Int) != 3) && ((t3371.length : Int) != 5)))) rfl (guard_none rfl) rfl rfl (ex_por_t rfl rfl hg3377) ?_
      refine ops_nil ?_
      replace HM := HM.front 1 rfl rfl
      exact at_meet [(0, .string x0), (1, .string x1), (4, .pointer (some ⟨b3367, 0, none⟩)), (6, u3373), (23, .bool ((decide (300 < (x0.size : Int))) || (((t3371.length : Int) != 3) && ((t3371.length : Int) != 5))))] ⟨rfl, HM⟩ (Sub.cons rfl (Sub.cons rfl (Sub.cons rfl (Sub.cons rfl (Sub.cons rfl Sub.nil)))))
    · skip
      refine ops_ex rfl (guard_on rfl rfl rfl hg3377) rfl rfl (ex_move rfl rfl) ?_
      refine ops_ex rfl (guard_on rfl rfl rfl hg3377) rfl rfl (ex_len (d := kStr) (xs := t3371) rfl rfl Tryz.underlying36 (HM.own_rd 0 rfl)) ?_
      refine ops_ex rfl (guard_on rfl rfl rfl hg3377) rfl rfl (ex_neq rfl rfl rfl) ?_
      refine ops_ex rfl (guard_on rfl rfl rfl hg3377) rfl rfl (ex_move rfl rfl) ?_
      refine bool_cases ((t3371.length : Int) != 3) (fun hg3379 => ?_) (fun hg3379 => ?_)
      · skip
        refine ops_ex rfl (guard_on rfl rfl rfl hg3379) rfl rfl (ex_move rfl rfl) ?_
        refine ops_ex rfl (guard_on rfl rfl rfl hg3379) rfl rfl (ex_len (d := kStr) (xs := t3371) rfl rfl Tryz.underlying36 (HM.own_rd 0 rfl)) ?_
        refine ops_ex rfl (guard_on rfl rfl rfl hg3379) rfl rfl (ex_neq rfl rfl rfl) ?_
        refine ops_ex (v := .bool (((t3371.length : Int) != 3) && ((t3371.length : Int) != 5))) rfl (guard_on rfl rfl rfl hg3377) rfl rfl (ex_pand_t rfl rfl hg3379 rfl) ?_
        refine ops_ex (v := .bool ((decide (300 < (x0.size : Int))) || (((t3371.length : Int) != 3) && ((t3371.length : Int) != 5)))) rfl (guard_none rfl) rfl rfl (ex_por_f rfl rfl hg3377 rfl) ?_
        refine ops_nil ?_
        replace HM := HM.front 1 rfl rfl
        exact at_meet [(0, .string x0), (1, .string x1), (4, .pointer (some ⟨b3367, 0, none⟩)), (6, u3373), (23, .bool ((decide (300 < (x0.size : Int))) || (((t3371.length : Int) != 3) && ((t3371.length : Int) != 5))))] ⟨rfl, HM⟩ (Sub.cons rfl (Sub.cons rfl (Sub.cons rfl (Sub.cons rfl (Sub.cons rfl Sub.nil)))))
      · skip
        refine ops_off rfl (guard_off rfl rfl rfl hg3379) rfl rfl ?_
        refine ops_off rfl (guard_off rfl rfl rfl hg3379) rfl rfl ?_
        refine ops_off rfl (guard_off rfl rfl rfl hg3379) rfl rfl ?_
        have hg3380 : (((t3371.length : Int) != 3) && ((t3371.length : Int) != 5)) = false := by simp only [hg3379, Bool.and_true, Bool.true_and, Bool.and_false, Bool.false_and, Bool.or_true, Bool.true_or, Bool.or_false, Bool.false_or, Bool.not_true, Bool.not_false, Bool.not_not]
        refine ops_ex (v := .bool (((t3371.length : Int) != 3) && ((t3371.length : Int) != 5))) rfl (guard_on rfl rfl rfl hg3377) rfl rfl (ex_pand_f rfl rfl hg3379) ?_
        refine ops_ex (v := .bool ((decide (300 < (x0.size : Int))) || (((t3371.length : Int) != 3) && ((t3371.length : Int) != 5)))) rfl (guard_none rfl) rfl rfl (ex_por_f rfl rfl hg3377 rfl) ?_
        refine ops_nil ?_
        replace HM := HM.front 1 rfl rfl
        exact at_meet [(0, .string x0), (1, .string x1), (4, .pointer (some ⟨b3367, 0, none⟩)), (6, u3373), (23, .bool ((decide (300 < (x0.size : Int))) || (((t3371.length : Int) != 3) && ((t3371.length : Int) != 5))))] ⟨rfl, HM⟩ (Sub.cons rfl (Sub.cons rfl (Sub.cons rfl (Sub.cons rfl (Sub.cons rfl Sub.nil)))))
  · rintro _ w3381 ⟨rfl, HM⟩
    refine at_then ?_
    refine run_cond (b := ((decide (300 < (x0.size : Int))) || (((t3371.length : Int) != 3) && ((t3371.length : Int) != 5)))) rfl (fun hb3382 => ?_) (fun hb3382 => ?_)
    · replace H := cond_t hb3382 H
      refine run_seq ?_
      refine run_region rfl ?_
      refine ops_ex rfl (guard_none rfl) rfl rfl (ex_build (cells := #[(.slice none 0 0), (.int .i64 0), (.int .i64 0)]) rfl rfl (by kernel_rfl)) ?_
      refine ops_doesS rfl (guard_none rfl) rfl (does_store (vs := [.slice none 0 0, .int .i64 0, .int .i64 0]) (cs' := [.slice none 0 0, .int .i64 0, .int .i64 0]) rfl rfl rfl rfl tsz44 (Ones.sl (Ones.int (Ones.int Ones.nil))) rfl rfl HM) ?_
      rintro w3383 HM
      refine ops_ex rfl (guard_none rfl) rfl rfl (ex_assign rfl rfl) ?_
      refine ops_nil ?_
      refine at_then ?_
      refine run_ret ?_
      refine at_then_ret ?_
      replace HM := HM.empty kInt 2 none
      replace HM := (HM.front 2 rfl rfl).drop
      replace HM := HM.front 1 rfl rfl
      have hcb0 := HM.box_at 0 rfl
      replace HM := (HM.front 0 rfl rfl).drop
      have hR := Option.some.inj H
      subst hR
      exact at_retN1 rfl rfl rfl Tryz.underlying44 rfl tsz44 rfl hcb0 ⟨_, rfl, _, rfl, HM⟩
    · replace H := cond_f hb3382 H
      refine run_skip ?_
      refine at_then ?_
      refine run_seq ?_
      obtain ⟨e3385, H⟩ := chk_some H
      obtain ⟨e3386, H⟩ := chk_some H
      obtain ⟨t3387, h3388, H⟩ := bind_some H
      obtain ⟨t3389, h3390, H⟩ := bind_some H
      refine run_meet (fun ρ_ w_ => ∃ u3391 : Value, ∃ b3393 : Nat, ρ_ = [(0, .string x0), (1, .string x1), (4, .pointer (some ⟨b3367, 0, none⟩)), (6, u3373), (7, .pointer (some ⟨b3393, 0, none⟩))] ∧ Mem w [] w_ [box b3367 44 [.slice none 0 0, .int .i64 0, .int .i64 0], own kStr 9 u3373 t3371, box b3393 44 [u3391, .int .i64 t3387, .int .i64 0], own kInt 2 u3391 t3389]) ?_ ?_
      · skip
        refine run_draw (fun w_ => Mem w [] w_ [box b3367 44 [.slice none 0 0, .int .i64 0, .int .i64 0], own kStr 9 u3373 t3371]) mixed rfl (l := #[false, false, false, false, false, false, false, false, false, false, false]) rfl ?_
        replace HM := HM.grow (fr_drew _)
        have hS := Mem.suf (M := []) HM
        refine drw_take (i := 0) (l' := #[true, false, false, false, false, false, false, false, false, false, false]) rfl (guard_none rfl) rfl rfl (by kernel_rfl) (fun w_ hS_ => (ex_move rfl rfl)) hS ?_
        refine drw_take (i := 1) (l' := #[true, true, false, false, false, false, false, false, false, false, false]) rfl (guard_none rfl) rfl rfl (by kernel_rfl) (fun w_ hS_ => (ex_indexAddr (d := kStr) rfl rfl rfl Tryz.underlying36 tsz9 (hS_.own_rd 1 rfl) (idx_lo e3385) (idx_hi e3385))) hS ?_
        refine drw_take (i := 2) (l' := #[true, true, true, false, false, false, false, false, false, false, false]) rfl (guard_none rfl) rfl rfl (by kernel_rfl) (fun w_ hS_ => (ex_load1 rfl rfl Tryz.underlying9 rfl ((rd_plain (hS_.own_rd 1 rfl) e3385) 0 _ rfl))) hS ?_
        refine drw_take (i := 4) (l' := #[true, true, true, false, true, false, false, false, false, false, false]) rfl (guard_none rfl) rfl rfl (by kernel_rfl) (fun w_ hS_ => (ex_move rfl rfl)) hS ?_
        refine drw_take (i := 5) (l' := #[true, true, true, false, true, true, false, false, false, false, false]) rfl (guard_none rfl) rfl rfl (by kernel_rfl) (fun w_ hS_ => (ex_indexAddr (d := kStr) rfl rfl rfl Tryz.underlying36 tsz9 (hS_.own_rd 1 rfl) (idx_lo e3386) (idx_hi e3386))) hS ?_
        refine drw_take (i := 6) (l' := #[true, true, true, false, true, true, true, false, false, false, false]) rfl (guard_none rfl) rfl rfl (by kernel_rfl) (fun w_ hS_ => (ex_load1 rfl rfl Tryz.underlying9 rfl ((rd_plain (hS_.own_rd 1 rfl) e3386) 0 _ rfl))) hS ?_
        refine drw_any [3, 9] (by kernel_rfl) rfl (.cons ?_ (.cons ?_ .nil))
        · skip
          refine br_does (l' := #[true, true, true, true, true, true, true, false, false, false, false]) rfl (guard_none rfl) rfl rfl (by kernel_rfl) (does_callk rfl callok24 rfl (impl_number.calls (x0 := (gt t3371 (0 : Int))) (HM.tabP htab) h3388)) ?_
          rintro _ w3396 ⟨rfl, hn⟩
          replace HM : Mem w [] w3396 [box b3367 44 [.slice none 0 0, .int .i64 0, .int .i64 0], own kStr 9 u3373 t3371] := HM.call hn
          refine ⟨Mem.suf (M := []) HM, ?_⟩
          have hS := Mem.suf (M := []) HM
          refine drw_any [7, 9] (by kernel_rfl) rfl (.cons ?_ (.cons ?_ .nil))
          · skip
            refine br_does (l' := #[true, true, true, true, true, true, true, true, false, false, false]) rfl (guard_none rfl) rfl rfl (by kernel_rfl) (does_callk rfl callok68 rfl (impl_numbers.calls (x0 := (gt t3371 (2 : Int))) (x1 := (⟨#[44]⟩ : ByteArray)) (HM.tabP htab) h3390)) ?_
            rintro u3391 w3397 ⟨_, rfl, hn⟩
            replace HM : Mem w [] w3397 [own kInt 2 u3391 t3389, box b3367 44 [.slice none 0 0, .int .i64 0, .int .i64 0], own kStr 9 u3373 t3371] := HM.call hn
            refine ⟨Mem.suf (M := [own kInt 2 u3391 t3389]) HM, ?_⟩
            have hS := Mem.suf (M := [own kInt 2 u3391 t3389]) HM
            refine drw_take (i := 8) (l' := #[true, true, true, true, true, true, true, true, true, false, false]) rfl (guard_none rfl) rfl rfl (by kernel_rfl) (fun w_ hS_ => (ex_build1 (fun u3391 => [(1, .int .i64 t3387), (0, u3391)]) (fun u3391 => #[u3391, .int .i64 t3387, .int .i64 0]) rfl rfl (fun _ _ _ => by kernel_rfl) (HM.own_rd 0 rfl).isSl)) hS ?_
            refine drw_any [9] (by kernel_rfl) rfl (.cons ?_ .nil)
            refine br_does (l' := #[true, true, true, true, true, true, true, true, true, true, false]) rfl (guard_none rfl) rfl rfl (by kernel_rfl) (does_alloc (cs := [.slice none 0 0, .int .i64 0, .int .i64 0]) rfl tz44 rfl HM) ?_
            rintro _ w3398 ⟨b3393, rfl, HM⟩
            refine ⟨Mem.suf (M := [box b3393 44 [.slice none 0 0, .int .i64 0, .int .i64 0], own kInt 2 u3391 t3389]) HM, ?_⟩
            have hS := Mem.suf (M := [box b3393 44 [.slice none 0 0, .int .i64 0, .int .i64 0], own kInt 2 u3391 t3389]) HM
            refine drw_any [10] (by kernel_rfl) rfl (.cons ?_ .nil)
            refine br_doesS (l' := #[true, true, true, true, true, true, true, true, true, true, true]) rfl (guard_none rfl) rfl (by kernel_rfl) (does_store (vs := [u3391, .int .i64 t3387, .int .i64 0]) (cs' := [u3391, .int .i64 t3387, .int .i64 0]) rfl rfl rfl rfl tsz44 (Ones.rd (HM.own_rd 1 rfl) (Ones.int (Ones.int Ones.nil))) rfl rfl HM) ?_
            rintro w3399 HM
            refine ⟨Mem.suf (M := [box b3393 44 [u3391, .int .i64 t3387, .int .i64 0], own kInt 2 u3391 t3389]) HM, ?_⟩
            have hS := Mem.suf (M := [box b3393 44 [u3391, .int .i64 t3387, .int .i64 0], own kInt 2 u3391 t3389]) HM
            refine drw_done (by kernel_rfl) ?_
            replace HM := HM.front 1 rfl rfl
            replace HM := HM.front 1 rfl rfl
            replace HM := HM.front 3 rfl rfl
            replace HM := HM.front 3 rfl rfl
            exact at_meet [(0, .string x0), (1, .string x1), (4, .pointer (some ⟨b3367, 0, none⟩)), (6, u3373), (7, .pointer (some ⟨b3393, 0, none⟩))] ⟨_, _, rfl, HM⟩ (Sub.cons rfl (Sub.cons rfl (Sub.cons rfl (Sub.cons rfl (Sub.cons rfl Sub.nil)))))
          · skip
            refine br_does (l' := #[true, true, true, true, true, true, true, false, false, true, false]) rfl (guard_none rfl) rfl rfl (by kernel_rfl) (does_alloc (cs := [.slice none 0 0, .int .i64 0, .int .i64 0]) rfl tz44 rfl HM) ?_
            rintro _ w3400 ⟨b3393, rfl, HM⟩
            refine ⟨Mem.suf (M := [box b3393 44 [.slice none 0 0, .int .i64 0, .int .i64 0]]) HM, ?_⟩
            have hS := Mem.suf (M := [box b3393 44 [.slice none 0 0, .int .i64 0, .int .i64 0]]) HM
            refine drw_any [7] (by kernel_rfl) rfl (.cons ?_ .nil)
            refine br_does (l' := #[true, true, true, true, true, true, true, true, false, true, false]) rfl (guard_none rfl) rfl rfl (by kernel_rfl) (does_callk rfl callok68 rfl (impl_numbers.calls (x0 := (gt t3371 (2 : Int))) (x1 := (⟨#[44]⟩ : ByteArray)) (HM.tabP htab) h3390)) ?_
            rintro u3391 w3401 ⟨_, rfl, hn⟩
            replace HM : Mem w [] w3401 [own kInt 2 u3391 t3389, box b3393 44 [.slice none 0 0, .int .i64 0, .int .i64 0], box b3367 44 [.slice none 0 0, .int .i64 0, .int .i64 0], own kStr 9 u3373 t3371] := HM.call hn
            refine ⟨Mem.suf (M := [own kInt 2 u3391 t3389, box b3393 44 [.slice none 0 0, .int .i64 0, .int .i64 0]]) HM, ?_⟩
            have hS := Mem.suf (M := [own kInt 2 u3391 t3389, box b3393 44 [.slice none 0 0, .int .i64 0, .int .i64 0]]) HM
            refine drw_take (i := 8) (l' := #[true, true, true, true, true, true, true, true, true, true, false]) rfl (guard_none rfl) rfl rfl (by kernel_rfl) (fun w_ hS_ => (ex_build1 (fun u3391 => [(1, .int .i64 t3387), (0, u3391)]) (fun u3391 => #[u3391, .int .i64 t3387, .int .i64 0]) rfl rfl (fun _ _ _ => by kernel_rfl) (HM.own_rd 0 rfl).isSl)) hS ?_
            replace HM := HM.front 1 rfl rfl
            refine drw_any [10] (by kernel_rfl) rfl (.cons ?_ .nil)
            refine br_doesS (l' := #[true, true, true, true, true, true, true, true, true, true, true]) rfl (guard_none rfl) rfl (by kernel_rfl) (does_store (vs := [u3391, .int .i64 t3387, .int .i64 0]) (cs' := [u3391, .int .i64 t3387, .int .i64 0]) rfl rfl rfl rfl tsz44 (Ones.rd (HM.own_rd 1 rfl) (Ones.int (Ones.int Ones.nil))) rfl rfl HM) ?_
            rintro w3402 HM
            refine ⟨Mem.suf (M := [box b3393 44 [u3391, .int .i64 t3387, .int .i64 0], own kInt 2 u3391 t3389]) HM, ?_⟩
            have hS := Mem.suf (M := [box b3393 44 [u3391, .int .i64 t3387, .int .i64 0], own kInt 2 u3391 t3389]) HM
            refine drw_done (by kernel_rfl) ?_
            replace HM := HM.front 1 rfl rfl
            replace HM := HM.front 1 rfl rfl
            replace HM := HM.front 3 rfl rfl
            replace HM := HM.front 3 rfl rfl
            exact at_meet [(0, .string x0), (1, .string x1), (4, .pointer (some ⟨b3367, 0, none⟩)), (6, u3373), (7, .pointer (some ⟨b3393, 0, none⟩))] ⟨_, _, rfl, HM⟩ (Sub.cons rfl (Sub.cons rfl (Sub.cons rfl (Sub.cons rfl (Sub.cons rfl Sub.nil)))))
        · skip
          refine br_does (l' := #[true, true, true, false, true, true, true, false, false, true, false]) rfl (guard_none rfl) rfl rfl (by kernel_rfl) (does_alloc (cs := [.slice none 0 0, .int .i64 0, .int .i64 0]) rfl tz44 rfl HM) ?_
          rintro _ w3403 ⟨b3393, rfl, HM⟩
          refine ⟨Mem.suf (M := [box b3393 44 [.slice none 0 0, .int .i64 0, .int .i64 0]]) HM, ?_⟩
          have hS := Mem.suf (M := [box b3393 44 [.slice none 0 0, .int .i64 0, .int .i64 0]]) HM
          refine drw_any [3] (by kernel_rfl) rfl (.cons ?_ .nil)
          refine br_does (l' := #[true, true, true, true, true, true, true, false, false, true, false]) rfl (guard_none rfl) rfl rfl (by kernel_rfl) (does_callk rfl callok24 rfl (impl_number.calls (x0 := (gt t3371 (0 : Int))) (HM.tabP htab) h3388)) ?_
          rintro _ w3404 ⟨rfl, hn⟩
          replace HM : Mem w [] w3404 [box b3393 44 [.slice none 0 0, .int .i64 0, .int .i64 0], box b3367 44 [.slice none 0 0, .int .i64 0, .int .i64 0], own kStr 9 u3373 t3371] := HM.call hn
          refine ⟨Mem.suf (M := [box b3393 44 [.slice none 0 0, .int .i64 0, .int .i64 0]]) HM, ?_⟩
          have hS := Mem.suf (M := [box b3393 44 [.slice none 0 0, .int .i64 0, .int .i64 0]]) HM
          refine drw_any [7] (by kernel_rfl) rfl (.cons ?_ .nil)
          refine br_does (l' := #[true, true, true, true, true, true, true, true, false, true, false]) rfl (guard_none rfl) rfl rfl (by kernel_rfl) (does_callk rfl callok68 rfl (impl_numbers.calls (x0 := (gt t3371 (2 : Int))) (x1 := (⟨#[44]⟩ : ByteArray)) (HM.tabP htab) h3390)) ?_
          rintro u3391 w3405 ⟨_, rfl, hn⟩
          replace HM : Mem w [] w3405 [own kInt 2 u3391 t3389, box b3393 44 [.slice none 0 0, .int .i64 0, .int .i64 0], box b3367 44 [.slice none 0 0, .int .i64 0, .int .i64 0], own kStr 9 u3373 t3371] := HM.call hn
          refine ⟨Mem.suf (M := [own kInt 2 u3391 t3389, box b3393 44 [.slice none 0 0, .int .i64 0, .int .i64 0]]) HM, ?_⟩
          have hS := Mem.suf (M := [own kInt 2 u3391 t3389, box b3393 44 [.slice none 0 0, .int .i64 0, .int .i64 0]]) HM
          refine drw_take (i := 8) (l' := #[true, true, true, true, true, true, true, true, true, true, false]) rfl (guard_none rfl) rfl rfl (by kernel_rfl) (fun w_ hS_ => (ex_build1 (fun u3391 => [(1, .int .i64 t3387), (0, u3391)]) (fun u3391 => #[u3391, .int .i64 t3387, .int .i64 0]) rfl rfl (fun _ _ _ => by kernel_rfl) (HM.own_rd 0 rfl).isSl)) hS ?_
          replace HM := HM.front 1 rfl rfl
          refine drw_any [10] (by kernel_rfl) rfl (.cons ?_ .nil)
          refine br_doesS (l' := #[true, true, true, true, true, true, true, true, true, true, true]) rfl (guard_none rfl) rfl (by kernel_rfl) (does_store (vs := [u3391, .int .i64 t3387, .int .i64 0]) (cs' := [u3391, .int .i64 t3387, .int .i64 0]) rfl rfl rfl rfl tsz44 (Ones.rd (HM.own_rd 1 rfl) (Ones.int (Ones.int Ones.nil))) rfl rfl HM) ?_
          rintro w3406 HM
          refine ⟨Mem.suf (M := [box b3393 44 [u3391, .int .i64 t3387, .int .i64 0], own kInt 2 u3391 t3389]) HM, ?_⟩
          have hS := Mem.suf (M := [box b3393 44 [u3391, .int .i64 t3387, .int .i64 0], own kInt 2 u3391 t3389]) HM
          refine drw_done (by kernel_rfl) ?_
          replace HM := HM.front 1 rfl rfl
          replace HM := HM.front 1 rfl rfl
          replace HM := HM.front 3 rfl rfl
          replace HM := HM.front 3 rfl rfl
          exact at_meet [(0, .string x0), (1, .string x1), (4, .pointer (some ⟨b3367, 0, none⟩)), (6, u3373), (7, .pointer (some ⟨b3393, 0, none⟩))] ⟨_, _, rfl, HM⟩ (Sub.cons rfl (Sub.cons rfl (Sub.cons rfl (Sub.cons rfl (Sub.cons rfl Sub.nil)))))
      · rintro _ w3407 ⟨u3391, b3393, rfl, HM⟩
        refine at_then ?_
        obtain ⟨o3417, ho3418, H⟩ := bind_some H
        refine run_mid (fun ρ_ w_ => ∃ a3416 : Int, a3416 = o3417 ∧ ρ_ = [(0, .string x0), (1, .string x1), (4, .pointer (some ⟨b3367, 0, none⟩)), (7, .pointer (some ⟨b3393, 0, none⟩))] ∧ Mem w [] w_ [box b3367 44 [.slice none 0 0, .int .i64 0, .int .i64 0], box b3393 44 [u3391, .int .i64 t3387, .int .i64 a3416], own kInt 2 u3391 t3389]) ?_ ?_
        · clear H
          refine run_seq ?_
          refine run_region rfl ?_
          refine ops_ex rfl (guard_none rfl) rfl rfl (ex_move rfl rfl) ?_
          refine ops_ex rfl (guard_none rfl) rfl rfl (ex_len (d := kStr) (xs := t3371) rfl rfl Tryz.underlying36 (HM.own_rd 1 rfl)) ?_
          refine ops_ex rfl (guard_none rfl) rfl rfl (ex_eql rfl rfl rfl) ?_
          refine ops_nil ?_
          refine at_then ?_
          refine run_cond (b := ((t3371.length : Int) == 5)) rfl (fun hb3419 => ?_) (fun hb3419 => ?_)
          · replace ho3418 := cond_t hb3419 ho3418
            obtain ⟨e3420, ho3418⟩ := chk_some ho3418
            obtain ⟨t3421, h3422, ho3418⟩ := bind_some ho3418
            refine run_region rfl ?_
            refine ops_ex rfl (guard_none rfl) rfl rfl (ex_move rfl rfl) ?_
            refine ops_ex rfl (guard_none rfl) rfl rfl (ex_indexAddr (d := kStr) rfl rfl rfl Tryz.underlying36 tsz9 (HM.own_rd 1 rfl) (idx_lo e3420) (idx_hi e3420)) ?_
            refine ops_ex rfl (guard_none rfl) rfl rfl (ex_load1 rfl rfl Tryz.underlying9 rfl ((rd_plain (HM.own_rd 1 rfl) e3420) 0 _ rfl)) ?_
            refine ops_does rfl (guard_none rfl) rfl rfl (does_callk rfl callok24 rfl (impl_number.calls (x0 := (gt t3371 (4 : Int))) (HM.tabP htab) h3422)) ?_
            rintro _ w3423 ⟨rfl, hn⟩
            replace HM : Mem w [] w3423 [box b3367 44 [.slice none 0 0, .int .i64 0, .int .i64 0], own kStr 9 u3373 t3371, box b3393 44 [u3391, .int .i64 t3387, .int .i64 0], own kInt 2 u3391 t3389] := HM.call hn
            refine ops_ex rfl (guard_none rfl) rfl rfl (ex_fieldAddr (off' := 2) rfl rfl Tryz.underlying44 rfl tsz2 rfl) ?_
            replace HM := HM.front 2 rfl rfl
            refine ops_doesS rfl (guard_none rfl) rfl (does_store (vs := [.int .i64 t3421]) (cs' := [u3391, .int .i64 t3387, .int .i64 t3421]) rfl rfl rfl rfl tsz2 (Ones.int Ones.nil) rfl rfl HM) ?_
            rintro w3424 HM
            refine ops_nil ?_
            replace HM := (HM.front 2 rfl rfl).drop
            replace HM := HM.front 2 rfl rfl
            replace HM := HM.front 1 rfl rfl
            replace HM := HM.front 2 rfl rfl
            exact at_mid (ρ' := [(0, .string x0), (1, .string x1), (4, .pointer (some ⟨b3367, 0, none⟩)), (7, .pointer (some ⟨b3393, 0, none⟩))]) ⟨_, (Option.some.inj ho3418), rfl, HM⟩ (Sub.cons rfl (Sub.cons rfl (Sub.cons rfl (Sub.cons rfl Sub.nil))))
          · replace ho3418 := cond_f hb3419 ho3418
            refine run_skip ?_
            replace HM := (HM.front 1 rfl rfl).drop
            exact at_mid (ρ' := [(0, .string x0), (1, .string x1), (4, .pointer (some ⟨b3367, 0, none⟩)), (7, .pointer (some ⟨b3393, 0, none⟩))]) ⟨_, (Option.some.inj ho3418), rfl, HM⟩ (Sub.cons rfl (Sub.cons rfl (Sub.cons rfl (Sub.cons rfl Sub.nil))))
        · rintro _ w3425 ⟨a3416, rfl, rfl, HM⟩
          refine run_seq ?_
          refine run_seq ?_
          obtain ⟨t3426, h3427, H⟩ := bind_some H
          obtain ⟨t3428, h3429, H⟩ := bind_some H
          refine run_meet (fun ρ_ w_ => ρ_ = [(4, .pointer (some ⟨b3367, 0, none⟩)), (7, .pointer (some ⟨b3393, 0, none⟩)), (51, .bool ((t3426 != 0) || (!sEq t3428 x0)))] ∧ Mem w [] w_ [box b3367 44 [.slice none 0 0, .int .i64 0, .int .i64 0], box b3393 44 [u3391, .int .i64 t3387, .int .i64 a3416], own kInt 2 u3391 t3389]) ?_ ?_
          · skip
            refine run_region rfl ?_
            refine ops_ex rfl (guard_none rfl) rfl rfl (ex_loadN (cs := [u3391, (.int .i64 t3387), (.int .i64 a3416)]) rfl rfl Tryz.underlying44 rfl tsz44 rfl ((HM.box_at 1 rfl).sub 0 3 rfl)) ?_
            refine ops_does rfl (guard_none rfl) rfl rfl (does_callk rfl callok69 rfl (impl_RuleFault.calls (x0 := (⟨t3389, t3387, a3416⟩ : Rule)) (HM.own_rd 2 rfl) h3427)) ?_
            rintro _ w3430 ⟨rfl, hn⟩
            replace HM : Mem w [] w3430 [box b3367 44 [.slice none 0 0, .int .i64 0, .int .i64 0], box b3393 44 [u3391, .int .i64 t3387, .int .i64 a3416], own kInt 2 u3391 t3389] := HM.call hn
            refine ops_ex rfl (guard_none rfl) rfl rfl (ex_neq rfl rfl rfl) ?_
            refine ops_ex rfl (guard_none rfl) rfl rfl (ex_move rfl rfl) ?_
            refine bool_cases (t3426 != 0) (fun hg3431 => ?_) (fun hg3431 => ?_)
            · skip
              refine ops_off rfl (guard_off rfl rfl rfl hg3431) rfl rfl ?_
              refine ops_off rfl (guard_off rfl rfl rfl hg3431) rfl rfl ?_
              refine ops_off rfl (guard_off rfl rfl rfl hg3431) rfl rfl ?_
              refine ops_off rfl (guard_off rfl rfl rfl hg3431) rfl rfl ?_
              refine ops_off rfl (guard_off rfl rfl rfl hg3431) rfl rfl ?_
              have hg3432 : ((t3426 != 0) || (!sEq t3428 x0)) = true := by simp only [hg3431, Bool.and_true, Bool.true_and, Bool.and_false, Bool.false_and, Bool.or_true, Bool.true_or, Bool.or_false, Bool.false_or, Bool.not_true, Bool.not_false, Bool.not_not]
              refine ops_ex (v := .bool ((t3426 != 0) || (!sEq t3428 x0))) rfl (guard_none rfl) rfl rfl (ex_por_t rfl rfl hg3431) ?_
              refine ops_nil ?_
              exact at_meet [(4, .pointer (some ⟨b3367, 0, none⟩)), (7, .pointer (some ⟨b3393, 0, none⟩)), (51, .bool ((t3426 != 0) || (!sEq t3428 x0)))] ⟨rfl, HM⟩ (Sub.cons rfl (Sub.cons rfl (Sub.cons rfl Sub.nil)))
            · skip
              refine ops_ex rfl (guard_on rfl rfl rfl hg3431) rfl rfl (ex_loadN (cs := [u3391, (.int .i64 t3387), (.int .i64 a3416)]) rfl rfl Tryz.underlying44 rfl tsz44 rfl ((HM.box_at 1 rfl).sub 0 3 rfl)) ?_
              refine ops_ex rfl (guard_on rfl rfl rfl hg3431) rfl rfl (ex_move rfl rfl) ?_
              refine ops_does rfl (guard_on rfl rfl rfl hg3431) rfl rfl (does_callk rfl callok55 rfl (impl_ruleText.calls (x0 := (⟨t3389, t3387, a3416⟩ : Rule)) (x1 := x1) (HM.tabP htab) (HM.own_rd 2 rfl) (cond_t (not_mk hg3431) h3429))) ?_
              rintro _ w3433 ⟨rfl, hn⟩
              replace HM : Mem w [] w3433 [box b3367 44 [.slice none 0 0, .int .i64 0, .int .i64 0], box b3393 44 [u3391, .int .i64 t3387, .int .i64 a3416], own kInt 2 u3391 t3389] := HM.call hn
              refine ops_ex rfl (guard_on rfl rfl rfl hg3431) rfl rfl (ex_move rfl rfl) ?_
              refine ops_ex rfl (guard_on rfl rfl rfl hg3431) rfl rfl (ex_sneq rfl rfl rfl) ?_
              refine ops_ex (v := .bool ((t3426 != 0) || (!sEq t3428 x0))) rfl (guard_none rfl) rfl rfl (ex_por_f rfl rfl hg3431 rfl) ?_
              refine ops_nil ?_
              exact at_meet [(4, .pointer (some ⟨b3367, 0, none⟩)), (7, .pointer (some ⟨b3393, 0, none⟩)), (51, .bool ((t3426 != 0) || (!sEq t3428 x0)))] ⟨rfl, HM⟩ (Sub.cons rfl (Sub.cons rfl (Sub.cons rfl Sub.nil)))
          · rintro _ w3434 ⟨rfl, HM⟩
            refine at_then ?_
            refine run_cond (b := ((t3426 != 0) || (!sEq t3428 x0))) rfl (fun hb3435 => ?_) (fun hb3435 => ?_)
            · replace H := cond_t hb3435 H
              refine run_seq ?_
              refine run_region rfl ?_
              refine ops_ex rfl (guard_none rfl) rfl rfl (ex_build (cells := #[(.slice none 0 0), (.int .i64 0), (.int .i64 0)]) rfl rfl (by kernel_rfl)) ?_
              refine ops_doesS rfl (guard_none rfl) rfl (does_store (vs := [.slice none 0 0, .int .i64 0, .int .i64 0]) (cs' := [.slice none 0 0, .int .i64 0, .int .i64 0]) rfl rfl rfl rfl tsz44 (Ones.sl (Ones.int (Ones.int Ones.nil))) rfl rfl HM) ?_
              rintro w3436 HM
              refine ops_ex rfl (guard_none rfl) rfl rfl (ex_assign rfl rfl) ?_
              refine ops_nil ?_
              refine at_then ?_
              refine run_ret ?_
              refine at_then_ret ?_
              replace HM := HM.empty kInt 2 none
              replace HM := (HM.front 2 rfl rfl).drop
              replace HM := (HM.front 2 rfl rfl).drop
              replace HM := HM.front 1 rfl rfl
              have hcb0 := HM.box_at 0 rfl
              replace HM := (HM.front 0 rfl rfl).drop
              have hR := Option.some.inj H
              subst hR
              exact at_retN1 rfl rfl rfl Tryz.underlying44 rfl tsz44 rfl hcb0 ⟨_, rfl, _, rfl, HM⟩
            · replace H := cond_f hb3435 H
              refine run_skip ?_
              refine at_then ?_
              refine run_seq ?_
              refine run_region rfl ?_
              refine ops_ex rfl (guard_none rfl) rfl rfl (ex_loadN (cs := [u3391, (.int .i64 t3387), (.int .i64 a3416)]) rfl rfl Tryz.underlying44 rfl tsz44 rfl ((HM.box_at 1 rfl).sub 0 3 rfl)) ?_
              refine ops_doesS rfl (guard_none rfl) rfl (does_store (vs := [u3391, .int .i64 t3387, .int .i64 a3416]) (cs' := [u3391, .int .i64 t3387, .int .i64 a3416]) rfl rfl rfl rfl tsz44 (Ones.rd (HM.own_rd 2 rfl) (Ones.int (Ones.int Ones.nil))) rfl rfl HM) ?_
              rintro w3438 HM
              refine ops_ex rfl (guard_none rfl) rfl rfl (ex_assign rfl rfl) ?_
              refine ops_nil ?_
              refine at_then ?_
              refine run_ret ?_
              replace HM := (HM.front 1 rfl rfl).drop
              have hcb0 := HM.box_at 0 rfl
              replace HM := (HM.front 0 rfl rfl).drop
              have hR := Option.some.inj H
              subst hR
              exact at_retN1 rfl rfl rfl Tryz.underlying44 rfl tsz44 rfl hcb0 ⟨_, rfl, _, rfl, HM⟩

def impl_readOut.f (k : Nat) (x0 : ByteArray) : Option (Out × Bool) := ((strings_Cut.f k x0 (⟨#[61]⟩ : ByteArray)).bind fun t3452 => ((impl_readRule.f k t3452.2.1 (⟨#[95]⟩ : ByteArray)).bind fun t3455 => ((impl_number.f k t3452.1).bind fun t3465 => some ((⟨t3465, (⟨t3455.1.fKeys, t3455.1.fNeed, t3455.1.fAfter⟩ : Rule)⟩ : Out), t3455.2))))
theorem impl_readOut.calls {k : Nat} {x0 : ByteArray}  {w : World} (htab : TabP w)  {r : Out × Bool} (H : impl_readOut.f k x0 = some r) :
    Calls Tryz.prog 26 ([.string x0] : List Value).toArray w (fun e w_ => ∃ v, e = .returned v ∧ ∃ u0 : Value, v = (.tuple #[.agg #[.int .i64 r.1.fValue, u0, .int .i64 r.1.fRule.fNeed, .int .i64 r.1.fRule.fAfter], .bool r.2]) ∧ Mem w [] w_ [own kInt 2 u0 r.1.fRule.fKeys]) := by
  have HM := Mem.start w
  refine calls_run (N := 25) Tryz.func26 rfl rfl rfl rfl ?_
  unfold impl_readOut.f at H
  refine run_seq ?_
  refine run_region rfl ?_
  refine ops_does rfl (guard_none rfl) rfl rfl (does_alloc (cs := [.int .i64 0, .slice none 0 0, .int .i64 0, .int .i64 0]) rfl tz49 rfl HM) ?_
  rintro _ w3451 ⟨b3448, rfl, HM⟩
  refine ops_ex rfl (guard_none rfl) rfl rfl (ex_assign rfl rfl) ?_
  refine ops_nil ?_
  refine at_then ?_
  refine run_seq ?_
  obtain ⟨t3452, h3453, H⟩ := bind_some H
  refine run_region rfl ?_
  refine ops_ex rfl (guard_none rfl) rfl rfl (ex_move rfl rfl) ?_
  refine ops_does rfl (guard_none rfl) rfl rfl (does_callk rfl callok25 rfl (strings_Cut.calls (x0 := x0) (x1 := (⟨#[61]⟩ : ByteArray)) (HM.tabP htab) h3453)) ?_
  rintro _ w3454 ⟨rfl, hn⟩
  replace HM : Mem w [] w3454 [box b3448 49 [.int .i64 0, .slice none 0 0, .int .i64 0, .int .i64 0]] := HM.call hn
  refine ops_ex rfl (guard_none rfl) rfl rfl (ex_move rfl rfl) ?_
  refine ops_ex rfl (guard_none rfl) rfl rfl (ex_extract rfl rfl rfl) ?_
  refine ops_ex rfl (guard_none rfl) rfl rfl (ex_extract rfl rfl rfl) ?_
  refine ops_ex rfl (guard_none rfl) rfl rfl (ex_extract rfl rfl rfl) ?_
  refine ops_ex rfl (guard_none rfl) rfl rfl (ex_assign rfl rfl) ?_
  refine ops_ex rfl (guard_none rfl) rfl rfl (ex_assign rfl rfl) ?_
  refine ops_ex rfl (guard_none rfl) rfl rfl (ex_assign rfl rfl) ?_
  refine ops_nil ?_
  refine at_then ?_
  refine run_seq ?_
  obtain ⟨t3455, h3456, H⟩ := bind_some H
  refine run_region rfl ?_
  refine ops_ex rfl (guard_none rfl) rfl rfl (ex_move rfl rfl) ?_
  refine ops_does rfl (guard_none rfl) rfl rfl (does_callk rfl callok47 rfl (impl_readRule.calls (x0 := t3452.2.1) (x1 := (⟨#[95]⟩ : ByteArray)) (HM.tabP htab) h3456)) ?_
  rintro _ w3462 ⟨u3457, rfl, hn⟩
  replace HM : Mem w [] w3462 [own kInt 2 u3457 t3455.1.fKeys, box b3448 49 [.int .i64 0, .slice none 0 0, .int .i64 0, .int .i64 0]] := HM.call hn
  refine ops_ex rfl (guard_none rfl) rfl rfl (ex_move rfl rfl) ?_
  refine ops_ex rfl (guard_none rfl) rfl rfl (ex_extract rfl rfl rfl) ?_
  refine ops_ex rfl (guard_none rfl) rfl rfl (ex_extract rfl rfl rfl) ?_
  refine ops_does rfl (guard_none rfl) rfl rfl (does_alloc (cs := [.slice none 0 0, .int .i64 0, .int .i64 0]) rfl tz44 rfl HM) ?_
  rintro _ w3463 ⟨b3459, rfl, HM⟩
  refine ops_doesS rfl (guard_none rfl) rfl (does_store (vs := [u3457, .int .i64 t3455.1.fNeed, .int .i64 t3455.1.fAfter]) (cs' := [u3457, .int .i64 t3455.1.fNeed, .int .i64 t3455.1.fAfter]) rfl rfl rfl rfl tsz44 (Ones.rd (HM.own_rd 1 rfl) (Ones.int (Ones.int Ones.nil))) rfl rfl HM) ?_
  rintro w3464 HM
  refine ops_ex rfl (guard_none rfl) rfl rfl (ex_assign rfl rfl) ?_
  refine ops_nil ?_
  refine at_then ?_
  refine run_seq ?_
  obtain ⟨t3465, h3466, H⟩ := bind_some H
  replace HM := HM.front 2 rfl rfl
  refine run_drawf (fun w_ => Mem w [] w_ [box b3459 44 [u3457, .int .i64 t3455.1.fNeed, .int .i64 t3455.1.fAfter], own kInt 2 u3457 t3455.1.fKeys]) [(0, true), (2, true), (4, true), (1, false), (3, true), (5, false), (6, true)] mixed rfl rfl (by kernel_rfl) ?_
  replace HM := HM.grow (fr_drew _)
  have hS := Mem.suf (M := [box b3448 49 [.int .i64 0, .slice none 0 0, .int .i64 0, .int .i64 0]]) HM
  refine drwp_take rfl (guard_none rfl) rfl rfl (fun w_ hS_ => (ex_move rfl rfl)) hS ?_
  refine drwp_take rfl (guard_none rfl) rfl rfl (fun w_ hS_ => (ex_loadN (cs := [u3457, (.int .i64 t3455.1.fNeed), (.int .i64 t3455.1.fAfter)]) rfl rfl Tryz.underlying44 rfl tsz44 rfl ((hS_.box_at 0 rfl).sub 0 3 rfl))) hS ?_
  refine drwp_take rfl (guard_none rfl) rfl rfl (fun w_ hS_ => (ex_move rfl rfl)) hS ?_
  refine drwp_one rfl (guard_none rfl) rfl rfl (does_callk rfl callok24 rfl (impl_number.calls (x0 := t3452.1) (HM.tabP htab) h3466)) ?_
  rintro _ w3467 ⟨rfl, hn⟩
  replace HM : Mem w [] w3467 [box b3448 49 [.int .i64 0, .slice none 0 0, .int .i64 0, .int .i64 0], box b3459 44 [u3457, .int .i64 t3455.1.fNeed, .int .i64 t3455.1.fAfter], own kInt 2 u3457 t3455.1.fKeys] := HM.call hn
  refine ⟨Mem.suf (M := [box b3448 49 [.int .i64 0, .slice none 0 0, .int .i64 0, .int .i64 0]]) HM, ?_⟩
  have hS := Mem.suf (M := [box b3448 49 [.int .i64 0, .slice none 0 0, .int .i64 0, .int .i64 0]]) HM
  refine drwp_take rfl (guard_none rfl) rfl rfl (fun w_ hS_ => (ex_build1 (fun u3457 => [(0, .int .i64 t3465), (1, .agg #[u3457, (.int .i64 t3455.1.fNeed), (.int .i64 t3455.1.fAfter)])]) (fun u3457 => #[.int .i64 t3465, u3457, .int .i64 t3455.1.fNeed, .int .i64 t3455.1.fAfter]) rfl rfl (fun _ _ _ => by kernel_rfl) (hS_.own_rd 1 rfl).isSl)) hS ?_
  refine drwp_oneS rfl (guard_none rfl) rfl (does_store (vs := [.int .i64 t3465, u3457, .int .i64 t3455.1.fNeed, .int .i64 t3455.1.fAfter]) (cs' := [.int .i64 t3465, u3457, .int .i64 t3455.1.fNeed, .int .i64 t3455.1.fAfter]) rfl rfl rfl rfl tsz49 (Ones.int (Ones.rd (HM.own_rd 2 rfl) (Ones.int (Ones.int Ones.nil)))) rfl rfl HM) ?_
  rintro w3468 HM
  refine ⟨Mem.suf (M := [box b3448 49 [.int .i64 t3465, u3457, .int .i64 t3455.1.fNeed, .int .i64 t3455.1.fAfter]]) HM, ?_⟩
  have hS := Mem.suf (M := [box b3448 49 [.int .i64 t3465, u3457, .int .i64 t3455.1.fNeed, .int .i64 t3455.1.fAfter]]) HM
  refine drwp_take rfl (guard_none rfl) rfl rfl (fun w_ hS_ => (ex_assign rfl rfl)) hS ?_
  refine drwp_done ?_
  refine at_then ?_
  refine run_ret ?_
  replace HM := (HM.front 1 rfl rfl).drop
  have hcb0 := HM.box_at 0 rfl
  replace HM := (HM.front 0 rfl rfl).drop
  have hR := Option.some.inj H
  subst hR
  exact at_retN1 rfl rfl rfl Tryz.underlying49 rfl tsz49 rfl hcb0 ⟨_, rfl, _, rfl, HM⟩

def impl_TxFault_1.f (k : Nat) (x0 : Int) : Option Bool := some ((decide (x0 < 1)) || (decide (4 < x0)))
theorem impl_TxFault_1.calls {k : Nat} {x0 : Int}  {w : World}  {r : Bool} (H : impl_TxFault_1.f k x0 = some r) :
    Calls Tryz.prog 48 ([.int .i64 x0] : List Value).toArray w (fun e w_ => ∃ v, e = .returned v ∧ v = (.bool r) ∧ Mem w [] w_ []) := by
  have HM := Mem.start w
  refine calls_run (N := 9) Tryz.func48 rfl rfl rfl rfl ?_
  unfold impl_TxFault_1.f at H
  refine run_seq ?_
  refine run_region rfl ?_
  refine ops_ex rfl (guard_none rfl) rfl rfl (ex_assign rfl rfl) ?_
  refine ops_nil ?_
  refine at_then ?_
  refine run_seq ?_
  refine run_meet (fun ρ_ w_ => ρ_ = [(2, .bool ((decide (x0 < 1)) || (decide (4 < x0))))] ∧ Mem w [] w_ []) ?_ ?_
  · skip
    refine run_region rfl ?_
    refine ops_ex rfl (guard_none rfl) rfl rfl (ex_move rfl rfl) ?_
    refine ops_ex rfl (guard_none rfl) rfl rfl (ex_lss rfl rfl rfl) ?_
    refine ops_ex rfl (guard_none rfl) rfl rfl (ex_move rfl rfl) ?_
    refine bool_cases (decide (x0 < 1)) (fun hg3538 => ?_) (fun hg3538 => ?_)
    · skip
      refine ops_off rfl (guard_off rfl rfl rfl hg3538) rfl rfl ?_
      refine ops_off rfl (guard_off rfl rfl rfl hg3538) rfl rfl ?_
      have hg3539 : ((decide (x0 < 1)) || (decide (4 < x0))) = true := by simp only [hg3538, Bool.and_true, Bool.true_and, Bool.and_false, Bool.false_and, Bool.or_true, Bool.true_or, Bool.or_false, Bool.false_or, Bool.not_true, Bool.not_false, Bool.not_not]
      refine ops_ex (v := .bool ((decide (x0 < 1)) || (decide (4 < x0)))) rfl (guard_none rfl) rfl rfl (ex_por_t rfl rfl hg3538) ?_
      refine ops_ex rfl (guard_none rfl) rfl rfl (ex_assign rfl rfl) ?_
      refine ops_nil ?_
      exact at_meet [(2, .bool ((decide (x0 < 1)) || (decide (4 < x0))))] ⟨rfl, HM⟩ (Sub.cons rfl Sub.nil)
    · skip
      refine ops_ex rfl (guard_on rfl rfl rfl hg3538) rfl rfl (ex_move rfl rfl) ?_
      refine ops_ex rfl (guard_on rfl rfl rfl hg3538) rfl rfl (ex_gtr rfl rfl rfl) ?_
      refine ops_ex (v := .bool ((decide (x0 < 1)) || (decide (4 < x0)))) rfl (guard_none rfl) rfl rfl (ex_por_f rfl rfl hg3538 rfl) ?_
      refine ops_ex rfl (guard_none rfl) rfl rfl (ex_assign rfl rfl) ?_
      refine ops_nil ?_
      exact at_meet [(2, .bool ((decide (x0 < 1)) || (decide (4 < x0))))] ⟨rfl, HM⟩ (Sub.cons rfl Sub.nil)
  · rintro _ w3540 ⟨rfl, HM⟩
    refine at_then ?_
    refine run_ret ?_
    have hR := Option.some.inj H
    subst hR
    exact at_ret1 rfl rfl ⟨_, rfl, rfl, HM⟩

def impl_isId.f (k : Nat) (x0 : Int) : Option Bool := ((impl_within.f k x0 1 60).bind fun t3568 => some t3568)
theorem impl_isId.calls {k : Nat} {x0 : Int}  {w : World}  {r : Bool} (H : impl_isId.f k x0 = some r) :
    Calls Tryz.prog 70 ([.int .i64 x0] : List Value).toArray w (fun e w_ => ∃ v, e = .returned v ∧ v = (.bool r) ∧ Mem w [] w_ []) := by
  have HM := Mem.start w
  refine calls_run (N := 5) Tryz.func70 rfl rfl rfl rfl ?_
  unfold impl_isId.f at H
  refine run_seq ?_
  refine run_region rfl ?_
  refine ops_ex rfl (guard_none rfl) rfl rfl (ex_assign rfl rfl) ?_
  refine ops_nil ?_
  refine at_then ?_
  refine run_seq ?_
  obtain ⟨t3568, h3569, H⟩ := bind_some H
  refine run_region rfl ?_
  refine ops_ex rfl (guard_none rfl) rfl rfl (ex_move rfl rfl) ?_
  refine ops_does rfl (guard_none rfl) rfl rfl (does_callk rfl callok49 rfl (impl_within.calls (x0 := x0) (x1 := 1) (x2 := 60) h3569)) ?_
  rintro _ w3570 ⟨rfl, hn⟩
  replace HM : Mem w [] w3570 [] := HM.call hn
  refine ops_ex rfl (guard_none rfl) rfl rfl (ex_assign rfl rfl) ?_
  refine ops_nil ?_
  refine at_then ?_
  refine run_ret ?_
  have hR := Option.some.inj H
  subst hR
  exact at_ret1 rfl rfl ⟨_, rfl, rfl, HM⟩

def impl_isRef.f (k : Nat) (x0 : Ref) : Option Bool := ((impl_isId.f k x0.fTx).bind fun t3579 => ((bif t3579 then impl_within.f k x0.fAt 0 3 else some default).bind fun t3581 => some (t3579 && t3581)))
theorem impl_isRef.calls {k : Nat} {x0 : Ref}  {w : World}  {r : Bool} (H : impl_isRef.f k x0 = some r) :
    Calls Tryz.prog 51 ([.agg #[(.int .i64 x0.fTx), (.int .i64 x0.fAt)]] : List Value).toArray w (fun e w_ => ∃ v, e = .returned v ∧ v = (.bool r) ∧ Mem w [] w_ []) := by
  have HM := Mem.start w
  refine calls_run (N := 11) Tryz.func51 rfl rfl rfl rfl ?_
  unfold impl_isRef.f at H
  refine run_seq ?_
  refine run_region rfl ?_
  refine ops_does rfl (guard_none rfl) rfl rfl (does_box (cs := [.int .i64 x0.fTx, .int .i64 x0.fAt]) rfl rfl rfl HM) ?_
  rintro _ w3578 ⟨b3575, rfl, HM⟩
  refine ops_ex rfl (guard_none rfl) rfl rfl (ex_assign rfl rfl) ?_
  refine ops_nil ?_
  refine at_then ?_
  refine run_seq ?_
  obtain ⟨t3579, h3580, H⟩ := bind_some H
  obtain ⟨t3581, h3582, H⟩ := bind_some H
  refine run_meet (fun ρ_ w_ => ρ_ = [(2, .bool (t3579 && t3581))] ∧ Mem w [] w_ []) ?_ ?_
  · skip
    refine run_region rfl ?_
    refine ops_ex rfl (guard_none rfl) rfl rfl (ex_fieldAddr (off' := 0) rfl rfl Tryz.underlying60 rfl tsz2 rfl) ?_
    refine ops_ex rfl (guard_none rfl) rfl rfl (ex_load1 rfl rfl Tryz.underlying2 rfl ((HM.box_at 0 rfl) 0 _ rfl)) ?_
    refine ops_does rfl (guard_none rfl) rfl rfl (does_callk rfl callok70 rfl (impl_isId.calls (x0 := x0.fTx) h3580)) ?_
    rintro _ w3583 ⟨rfl, hn⟩
    replace HM : Mem w [] w3583 [box b3575 60 [.int .i64 x0.fTx, .int .i64 x0.fAt]] := HM.call hn
    refine ops_ex rfl (guard_none rfl) rfl rfl (ex_move rfl rfl) ?_
    refine bool_cases t3579 (fun hg3584 => ?_) (fun hg3584 => ?_)
    · skip
      refine ops_ex rfl (guard_on rfl rfl rfl hg3584) rfl rfl (ex_fieldAddr (off' := 1) rfl rfl Tryz.underlying60 rfl tsz2 rfl) ?_
      refine ops_ex rfl (guard_on rfl rfl rfl hg3584) rfl rfl (ex_load1 rfl rfl Tryz.underlying2 rfl ((HM.box_at 0 rfl) 1 _ rfl)) ?_
      refine ops_does rfl (guard_on rfl rfl rfl hg3584) rfl rfl (does_callk rfl callok49 rfl (impl_within.calls (x0 := x0.fAt) (x1 := 0) (x2 := 3) (cond_t hg3584 h3582))) ?_
      rintro _ w3585 ⟨rfl, hn⟩
      replace HM : Mem w [] w3585 [box b3575 60 [.int .i64 x0.fTx, .int .i64 x0.fAt]] := HM.call hn
      refine ops_ex (v := .bool (t3579 && t3581)) rfl (guard_none rfl) rfl rfl (ex_pand_t rfl rfl hg3584 rfl) ?_
      refine ops_ex rfl (guard_none rfl) rfl rfl (ex_assign rfl rfl) ?_
      refine ops_nil ?_
      replace HM := (HM.front 0 rfl rfl).drop
      exact at_meet [(2, .bool (t3579 && t3581))] ⟨rfl, HM⟩ (Sub.cons rfl Sub.nil)
    · skip
      refine ops_off rfl (guard_off rfl rfl rfl hg3584) rfl rfl ?_
      refine ops_off rfl (guard_off rfl rfl rfl hg3584) rfl rfl ?_
      refine ops_off rfl (guard_off rfl rfl rfl hg3584) rfl rfl ?_
      have hg3586 : (t3579 && t3581) = false := by simp only [hg3584, Bool.and_true, Bool.true_and, Bool.and_false, Bool.false_and, Bool.or_true, Bool.true_or, Bool.or_false, Bool.false_or, Bool.not_true, Bool.not_false, Bool.not_not]
      refine ops_ex (v := .bool (t3579 && t3581)) rfl (guard_none rfl) rfl rfl (ex_pand_f rfl rfl hg3584) ?_
      refine ops_ex rfl (guard_none rfl) rfl rfl (ex_assign rfl rfl) ?_
      refine ops_nil ?_
      replace HM := (HM.front 0 rfl rfl).drop
      exact at_meet [(2, .bool (t3579 && t3581))] ⟨rfl, HM⟩ (Sub.cons rfl Sub.nil)
  · rintro _ w3587 ⟨rfl, HM⟩
    refine at_then ?_
    refine run_ret ?_
    have hR := Option.some.inj H
    subst hR
    exact at_ret1 rfl rfl ⟨_, rfl, rfl, HM⟩
end Go.Proofs.YtcpacdbdehphkaaGreatDoor.Zk
