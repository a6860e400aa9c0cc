/- What functions of the program compute, each as a plain function, and that they do. Conditions: as each theorem states them. -/
import Derived.Test.YtcpacdbdehphkaaDoorTxTextZkF4
namespace Go.Proofs.YtcpacdbdehphkaaDoor.Zk
open Go Go.RowKit Go.IntWalk Go.Proofs
set_option linter.unusedVariables false
set_option linter.unusedSimpArgs false
set_option maxRecDepth 100000
set_option maxHeartbeats 4000000
def impl_txText.l0 (x0 : Tx) : Nat → (List ByteArray) → Int → Option ((List ByteArray))
  | 0, _, _ => none
  | k + 1, a3197, a3199 => (bif (decide (a3199 < (x0.fIns.length : Int))) then (chk (idxOk a3199 x0.fIns.length) ((impl_dec.f k ((gt x0.fIns a3199).fTx)).bind fun t3228 => (chk (leB (t3228.size + (⟨#[58]⟩ : ByteArray).size) 9223372036854775807) ((impl_dec.f k ((gt x0.fIns a3199).fAt)).bind fun t3231 => (chk (leB ((t3228 ++ (⟨#[58]⟩ : ByteArray)).size + t3231.size) 9223372036854775807) (chk (leB ((a3197.length + ([(t3228 ++ (⟨#[58]⟩ : ByteArray)) ++ t3231] : List ByteArray).length) * 16) 140737488355328) (impl_txText.l0 x0 k (a3197 ++ ([(t3228 ++ (⟨#[58]⟩ : ByteArray)) ++ t3231] : List ByteArray)) (wrap64 (a3199 + 1))))))))) else some a3197)
theorem impl_txText.l0_z (x0 : Tx) (a3197 : List ByteArray) (a3199 : Int) : impl_txText.l0 x0 0 a3197 a3199 = none := rfl
theorem impl_txText.l0_s (x0 : Tx) (k : Nat) (a3197 : List ByteArray) (a3199 : Int) : impl_txText.l0 x0 (k + 1) a3197 a3199 = (bif (decide (a3199 < (x0.fIns.length : Int))) then (chk (idxOk a3199 x0.fIns.length) ((impl_dec.f k ((gt x0.fIns a3199).fTx)).bind fun t3228 => (chk (leB (t3228.size + (⟨#[58]⟩ : ByteArray).size) 9223372036854775807) ((impl_dec.f k ((gt x0.fIns a3199).fAt)).bind fun t3231 => (chk (leB ((t3228 ++ (⟨#[58]⟩ : ByteArray)).size + t3231.size) 9223372036854775807) (chk (leB ((a3197.length + ([(t3228 ++ (⟨#[58]⟩ : ByteArray)) ++ t3231] : List ByteArray).length) * 16) 140737488355328) (impl_txText.l0 x0 k (a3197 ++ ([(t3228 ++ (⟨#[58]⟩ : ByteArray)) ++ t3231] : List ByteArray)) (wrap64 (a3199 + 1))))))))) else some a3197) := rfl
def impl_txText.l1 (x0 : Tx) : Nat → (List ByteArray) → Int → Option ((List ByteArray))
  | 0, _, _ => none
  | k + 1, a3346, a3348 => (bif (decide (a3348 < (x0.fOuts.length : Int))) then (chk (idxOk a3348 x0.fOuts.length) ((impl_dec.f k ((gt x0.fOuts a3348).fValue)).bind fun t3381 => (chk (leB (t3381.size + (⟨#[61]⟩ : ByteArray).size) 9223372036854775807) ((impl_ruleText.f k ((gt x0.fOuts a3348).fRule) (⟨#[95]⟩ : ByteArray)).bind fun t3384 => (chk (leB ((t3381 ++ (⟨#[61]⟩ : ByteArray)).size + t3384.size) 9223372036854775807) (chk (leB ((a3346.length + ([(t3381 ++ (⟨#[61]⟩ : ByteArray)) ++ t3384] : List ByteArray).length) * 16) 140737488355328) (impl_txText.l1 x0 k (a3346 ++ ([(t3381 ++ (⟨#[61]⟩ : ByteArray)) ++ t3384] : List ByteArray)) (wrap64 (a3348 + 1))))))))) else some a3346)
theorem impl_txText.l1_z (x0 : Tx) (a3346 : List ByteArray) (a3348 : Int) : impl_txText.l1 x0 0 a3346 a3348 = none := rfl
theorem impl_txText.l1_s (x0 : Tx) (k : Nat) (a3346 : List ByteArray) (a3348 : Int) : impl_txText.l1 x0 (k + 1) a3346 a3348 = (bif (decide (a3348 < (x0.fOuts.length : Int))) then (chk (idxOk a3348 x0.fOuts.length) ((impl_dec.f k ((gt x0.fOuts a3348).fValue)).bind fun t3381 => (chk (leB (t3381.size + (⟨#[61]⟩ : ByteArray).size) 9223372036854775807) ((impl_ruleText.f k ((gt x0.fOuts a3348).fRule) (⟨#[95]⟩ : ByteArray)).bind fun t3384 => (chk (leB ((t3381 ++ (⟨#[61]⟩ : ByteArray)).size + t3384.size) 9223372036854775807) (chk (leB ((a3346.length + ([(t3381 ++ (⟨#[61]⟩ : ByteArray)) ++ t3384] : List ByteArray).length) * 16) 140737488355328) (impl_txText.l1 x0 k (a3346 ++ ([(t3381 ++ (⟨#[61]⟩ : ByteArray)) ++ t3384] : List ByteArray)) (wrap64 (a3348 + 1))))))))) else some a3346) := rfl
def impl_txText.f (k : Nat) (x0 : Tx) : Option (ByteArray × Int) := ((impl_kindWords.f k).bind fun t3065 => (chk (idxOk x0.fKind t3065.length) ((bif (x0.fKind != 0) then ((impl_dec.f k x0.fMember).bind fun t3099 => (chk (leB ((([(gt t3065 x0.fKind)] : List ByteArray).length + ([t3099] : List ByteArray).length) * 16) 140737488355328) (some (([(gt t3065 x0.fKind)] : List ByteArray) ++ ([t3099] : List ByteArray))))) else some ([(gt t3065 x0.fKind)] : List ByteArray)).bind (fun a3094 => ((impl_txText.l0 x0 k ([] : List ByteArray) 0).bind (fun a3174 => ((strings_Join.f k a3174 (⟨#[43]⟩ : ByteArray)).bind fun t3245 => (chk (leB ((a3094.length + ([t3245] : List ByteArray).length) * 16) 140737488355328) ((impl_txText.l1 x0 k (a3094 ++ ([t3245] : List ByteArray)) 0).bind (fun a3321 => ((strings_Join.f k a3321 (⟨#[32]⟩ : ByteArray)).bind fun t3398 => (bif (decide (300 < (t3398.size : Int))) then some ((⟨#[]⟩ : ByteArray), 2) else some (t3398, 0)))))))))))))
theorem impl_txText.calls {k : Nat} {x0 : Tx} {p0_0 : Value} {p0_1 : Value} {w : World} (htab : Tab w) (hp0_0 : RdS kRef w p0_0 x0.fIns) (hp0_1 : RdS kOut w p0_1 x0.fOuts) {r : ByteArray × Int} (H : impl_txText.f k x0 = some r) :
    Calls Tryd.prog 36 ([.agg #[(.int .i64 x0.fKind), (.int .i64 x0.fMember), p0_0, p0_1]] : List Value).toArray w (fun e w_ => ∃ v, e = .returned v ∧ v = (.tuple #[.string r.1, .int .i64 r.2]) ∧ Mem w [] w_ []) := by
  have HM := Mem.start w
  refine calls_run (N := 76) Tryd.func36 rfl rfl rfl rfl ?_
  unfold impl_txText.f at H
  refine run_seq ?_
  refine run_region rfl ?_
  refine ops_does rfl (guard_none rfl) rfl rfl (does_box (cs := [.int .i64 x0.fKind, .int .i64 x0.fMember, p0_0, p0_1]) rfl rfl rfl HM) ?_
  rintro _ w3064 ⟨b3061, rfl, HM⟩
  refine ops_ex rfl (guard_none rfl) rfl rfl (ex_assign rfl rfl) ?_
  refine ops_ex rfl (guard_none rfl) rfl rfl (ex_assign rfl rfl) ?_
  refine ops_nil ?_
  refine at_then ?_
  refine run_seq ?_
  obtain ⟨t3065, h3066, H⟩ := bind_some H
  obtain ⟨e3069, H⟩ := chk_some H
  refine run_drawf (fun w_ => Mem w [] w_ [box b3061 33 [.int .i64 x0.fKind, .int .i64 x0.fMember, p0_0, p0_1]]) [(1, true), (2, true), (0, false), (3, true), (4, false), (5, false), (6, true)] mixed rfl rfl (by kernel_rfl) ?_
  replace HM := HM.grow (fr_drew _)
  have hS := Mem.suf (M := []) HM
  refine drwp_take rfl (guard_none rfl) rfl rfl (fun w_ hS_ => (ex_fieldAddr (off' := 0) rfl rfl Tryd.underlying33 rfl tsz2 rfl)) hS ?_
  refine drwp_take rfl (guard_none rfl) rfl rfl (fun w_ hS_ => (ex_load1 rfl rfl Tryd.underlying2 rfl ((hS_.box_at 0 rfl) 0 _ rfl))) hS ?_
  refine drwp_one rfl (guard_none rfl) rfl rfl (does_callk rfl callok75 rfl (impl_kindWords.calls h3066)) ?_
  rintro u3067 w3073 ⟨_, rfl, hn⟩
  replace HM : Mem w [] w3073 [own kStr 9 u3067 t3065, box b3061 33 [.int .i64 x0.fKind, .int .i64 x0.fMember, p0_0, p0_1]] := HM.call hn
  refine ⟨Mem.suf (M := [own kStr 9 u3067 t3065]) HM, ?_⟩
  have hS := Mem.suf (M := [own kStr 9 u3067 t3065]) HM
  refine drwp_take rfl (guard_none rfl) rfl rfl (fun w_ hS_ => (ex_indexAddr (d := kStr) rfl rfl rfl Tryd.underlying103 tsz9 (HM.own_rd 0 rfl) (idx_lo e3069) (idx_hi e3069))) hS ?_
  refine drwp_one rfl (guard_none rfl) rfl rfl (does_ex (ex_load1 rfl rfl Tryd.underlying9 rfl ((rd_plain (HM.own_rd 0 rfl) e3069) 0 _ rfl))) ?_
  rintro _ _ ⟨rfl, rfl⟩
  refine ⟨hS, ?_⟩
  refine drwp_one rfl (guard_none rfl) rfl rfl (does_lit (e := 9) (cs := [.string (gt t3065 x0.fKind)]) (xs := ([(gt t3065 x0.fKind)] : List ByteArray)) kStr rfl rfl (fun _ => by kernel_rfl) rfl rfl (fun _ _ h => by have h' : _ = [] := h; subst h'; exact (Elems.cons (d := kStr) (f := []) ⟨rfl, rfl⟩ .nil)) HM.emp) ?_
  rintro v3070 w3074 HM
  refine ⟨Mem.suf (M := [own kStr 9 v3070 ([(gt t3065 x0.fKind)] : List ByteArray), own kStr 9 u3067 t3065]) HM, ?_⟩
  have hS := Mem.suf (M := [own kStr 9 v3070 ([(gt t3065 x0.fKind)] : List ByteArray), own kStr 9 u3067 t3065]) HM
  refine drwp_take rfl (guard_none rfl) rfl rfl (fun w_ hS_ => (ex_assign rfl rfl)) hS ?_
  refine drwp_done ?_
  refine at_then ?_
  obtain ⟨o3096, ho3097, H⟩ := bind_some H
  refine run_mid (fun ρ_ w_ => ∃ v3093 : Value, ∃ a3094 : List ByteArray, a3094 = o3096 ∧ ρ_ = [(1, .pointer (some ⟨b3061, 0, none⟩)), (4, v3093)] ∧ Mem w [] w_ [box b3061 33 [.int .i64 x0.fKind, .int .i64 x0.fMember, p0_0, p0_1], own kStr 9 v3093 a3094]) ?_ ?_
  · clear H
    refine run_seq ?_
    refine run_region rfl ?_
    refine ops_ex rfl (guard_none rfl) rfl rfl (ex_fieldAddr (off' := 0) rfl rfl Tryd.underlying33 rfl tsz2 rfl) ?_
    refine ops_ex rfl (guard_none rfl) rfl rfl (ex_load1 rfl rfl Tryd.underlying2 rfl ((HM.box_at 2 rfl) 0 _ rfl)) ?_
    refine ops_ex rfl (guard_none rfl) rfl rfl (ex_neq rfl rfl rfl) ?_
    refine ops_nil ?_
    refine at_then ?_
    refine run_cond (b := (x0.fKind != 0)) rfl (fun hb3098 => ?_) (fun hb3098 => ?_)
    · replace ho3097 := cond_t hb3098 ho3097
      obtain ⟨t3099, h3100, ho3097⟩ := bind_some ho3097
      obtain ⟨e3104, ho3097⟩ := chk_some ho3097
      refine run_region rfl ?_
      refine ops_ex rfl (guard_none rfl) rfl rfl (ex_move rfl rfl) ?_
      refine ops_ex rfl (guard_none rfl) rfl rfl (ex_fieldAddr (off' := 1) rfl rfl Tryd.underlying33 rfl tsz2 rfl) ?_
      refine ops_ex rfl (guard_none rfl) rfl rfl (ex_load1 rfl rfl Tryd.underlying2 rfl ((HM.box_at 2 rfl) 1 _ rfl)) ?_
      refine ops_does rfl (guard_none rfl) rfl rfl (does_callk rfl callok76 rfl (impl_dec.calls (x0 := x0.fMember) (HM.tab htab) h3100)) ?_
      rintro _ w3107 ⟨rfl, hn⟩
      replace HM : Mem w [] w3107 [own kStr 9 v3070 ([(gt t3065 x0.fKind)] : List ByteArray), own kStr 9 u3067 t3065, box b3061 33 [.int .i64 x0.fKind, .int .i64 x0.fMember, p0_0, p0_1]] := HM.call hn
      refine ops_does rfl (guard_none rfl) rfl rfl (does_lit (e := 9) (cs := [.string t3099]) (xs := ([t3099] : List ByteArray)) kStr rfl rfl (fun _ => by kernel_rfl) rfl rfl (fun _ _ h => by have h' : _ = [] := h; subst h'; exact (Elems.cons (d := kStr) (f := []) ⟨rfl, rfl⟩ .nil)) HM.emp) ?_
      rintro v3101 w3108 HM
      replace HM := HM.front 1 rfl rfl
      refine ops_does rfl (guard_none rfl) rfl rfl (does_appendR kStr flat_plain rfl rfl rfl Tryd.underlying103 tsz9 rfl tby9 tz9 rfl rfl (leB_le e3104) (HM.own_rd 1 rfl) HM) ?_
      rintro v3105 w3109 HM
      refine ops_ex rfl (guard_none rfl) rfl rfl (ex_assign rfl rfl) ?_
      refine ops_nil ?_
      replace HM := (HM.front 1 rfl rfl).drop
      replace HM := (HM.front 1 rfl rfl).drop
      replace HM := HM.front 1 rfl rfl
      exact at_mid (ρ' := [(1, .pointer (some ⟨b3061, 0, none⟩)), (4, v3105)]) ⟨_, _, (Option.some.inj ho3097), rfl, HM⟩ (Sub.cons rfl (Sub.cons rfl Sub.nil))
    · replace ho3097 := cond_f hb3098 ho3097
      refine run_skip ?_
      replace HM := (HM.front 1 rfl rfl).drop
      replace HM := HM.front 1 rfl rfl
      exact at_mid (ρ' := [(1, .pointer (some ⟨b3061, 0, none⟩)), (4, v3070)]) ⟨_, _, (Option.some.inj ho3097), rfl, HM⟩ (Sub.cons rfl (Sub.cons rfl Sub.nil))
  · rintro _ w3110 ⟨v3093, a3094, rfl, rfl, HM⟩
    refine run_seq ?_
    refine run_region rfl ?_
    refine ops_does rfl (guard_none rfl) rfl rfl (does_lit (e := 9) (cs := []) (xs := ([] : List ByteArray)) kStr rfl rfl (fun _ => by kernel_rfl) rfl rfl (fun _ _ h => by have h' : _ = [] := h; subst h'; exact .nil) HM.emp) ?_
    rintro v3111 w3114 HM
    refine ops_ex rfl (guard_none rfl) rfl rfl (ex_assign rfl rfl) ?_
    refine ops_nil ?_
    refine at_then ?_
    obtain ⟨o3176, ho3177, H⟩ := bind_some H
    refine run_mid (fun ρ_ w_ => ∃ v3173 : Value, ∃ a3174 : List ByteArray, a3174 = o3176 ∧ ρ_ = [(1, .pointer (some ⟨b3061, 0, none⟩)), (4, v3093), (5, v3173)] ∧ Mem w [] w_ [box b3061 33 [.int .i64 x0.fKind, .int .i64 x0.fMember, p0_0, p0_1], own kStr 9 v3093 a3094, own kStr 9 v3173 a3174]) ?_ ?_
    · clear H
      refine run_seq ?_
      refine run_region rfl ?_
      refine ops_ex rfl (guard_none rfl) rfl rfl (ex_fieldAddr (off' := 2) rfl rfl Tryd.underlying33 rfl tsz30 rfl) ?_
      refine ops_ex rfl (guard_none rfl) rfl rfl (ex_load1 rfl rfl Tryd.underlying30 rfl ((HM.box_at 1 rfl) 2 _ rfl)) ?_
      refine ops_ex rfl (guard_none rfl) rfl rfl (ex_len (d := kRef) (xs := x0.fIns) rfl rfl Tryd.underlying30 hp0_0) ?_
      refine ops_ex rfl (guard_none rfl) rfl rfl (ex_move rfl rfl) ?_
      refine ops_nil ?_
      refine at_then ?_
      refine run_block ?_
      replace HM := HM.front 2 rfl rfl
      replace HM := HM.front 2 rfl rfl
      refine run_loop (fun k_ ρ_ w_ => ∃ v3196 : Value, ∃ a3197 : List ByteArray, ∃ a3199 : Int, impl_txText.l0 x0 k_ a3197 a3199 = some o3176 ∧ ρ_ = [(1, .pointer (some ⟨b3061, 0, none⟩)), (4, v3093), (5, v3196), (28, p0_0), (29, .int .i64 (x0.fIns.length : Int)), (30, .int .i64 a3199)] ∧ Mem w [] w_ [box b3061 33 [.int .i64 x0.fKind, .int .i64 x0.fMember, p0_0, p0_1], own kStr 9 v3093 a3094, own kStr 9 v3196 a3197]) k (ρ1 := [(1, .pointer (some ⟨b3061, 0, none⟩)), (4, v3093), (5, v3111), (28, p0_0), (29, .int .i64 (x0.fIns.length : Int)), (30, .int .i64 0)]) ⟨_, _, _, ho3177, rfl, HM⟩ (Sub.cons rfl (Sub.cons rfl (Sub.cons rfl (Sub.cons rfl (Sub.cons rfl (Sub.cons rfl Sub.nil)))))) ?_
      clear HM ho3177
      rintro k3218 _ w3219 ⟨v3196, a3197, a3199, ho3177, rfl, HM⟩
      obtain _ | k3218 := k3218
      · exact nomatch ((impl_txText.l0_z x0 a3197 a3199).symm.trans ho3177)
      replace ho3177 := (impl_txText.l0_s x0 k3218 a3197 a3199).symm.trans ho3177
      refine run_seq ?_
      refine run_region rfl ?_
      refine ops_ex rfl (guard_none rfl) rfl rfl (ex_lss rfl rfl rfl) ?_
      refine ops_nil ?_
      refine at_then ?_
      refine run_seq ?_
      refine run_cond (b := (decide (a3199 < (x0.fIns.length : Int)))) rfl (fun hb3220 => ?_) (fun hb3220 => ?_)
      · replace ho3177 := cond_t hb3220 ho3177
        refine run_skip ?_
        refine at_then ?_
        refine run_seq ?_
        refine run_block ?_
        refine run_seq ?_
        obtain ⟨e3221, ho3177⟩ := chk_some ho3177
        refine run_region rfl ?_
        have hc3222 : CellsAt _ (sb p0_0) (so p0_0 + (a3199).toNat * 2) [(.int .i64 ((gt x0.fIns a3199).fTx)), (.int .i64 ((gt x0.fIns a3199).fAt))] := rd_plain hp0_0 e3221
        refine ops_ex rfl (guard_none rfl) rfl rfl (ex_indexAddr (d := kRef) rfl rfl rfl Tryd.underlying30 tsz101 hp0_0 (idx_lo e3221) (idx_hi e3221)) ?_
        refine ops_ex rfl (guard_none rfl) rfl rfl (ex_loadN (cs := [(.int .i64 ((gt x0.fIns a3199).fTx)), (.int .i64 ((gt x0.fIns a3199).fAt))]) rfl rfl Tryd.underlying101 rfl tsz101 rfl ((HM.at_ hc3222).sub 0 2 rfl)) ?_
        refine ops_does rfl (guard_none rfl) rfl rfl (does_alloc (cs := [.int .i64 0, .int .i64 0]) rfl tz101 rfl HM) ?_
        rintro _ w3226 ⟨b3223, rfl, HM⟩
        refine ops_doesS rfl (guard_none rfl) rfl (does_store (vs := [.int .i64 ((gt x0.fIns a3199).fTx), .int .i64 ((gt x0.fIns a3199).fAt)]) (cs' := [.int .i64 ((gt x0.fIns a3199).fTx), .int .i64 ((gt x0.fIns a3199).fAt)]) rfl rfl rfl rfl tsz101 (Ones.int (Ones.int Ones.nil)) rfl rfl HM) ?_
        rintro w3227 HM
        refine ops_nil ?_
        refine at_then ?_
        obtain ⟨t3228, h3229, ho3177⟩ := bind_some ho3177
        obtain ⟨e3230, ho3177⟩ := chk_some ho3177
        obtain ⟨t3231, h3232, ho3177⟩ := bind_some ho3177
        obtain ⟨e3233, ho3177⟩ := chk_some ho3177
        obtain ⟨e3237, ho3177⟩ := chk_some ho3177
        replace HM := HM.front 3 rfl rfl
        refine run_drawf (fun w_ => Mem w [] w_ [box b3223 101 [.int .i64 ((gt x0.fIns a3199).fTx), .int .i64 ((gt x0.fIns a3199).fAt)], box b3061 33 [.int .i64 x0.fKind, .int .i64 x0.fMember, p0_0, p0_1], own kStr 9 v3093 a3094]) [(0, true), (1, true), (2, true), (5, true), (6, true), (3, false), (4, true), (7, false), (8, true), (9, false), (10, false), (11, true)] mixed rfl rfl (by kernel_rfl) ?_
        replace HM := HM.grow (fr_drew _)
        have hS := Mem.suf (M := [own kStr 9 v3196 a3197]) HM
        refine drwp_take rfl (guard_none rfl) rfl rfl (fun w_ hS_ => (ex_move rfl rfl)) hS ?_
        refine drwp_take rfl (guard_none rfl) rfl rfl (fun w_ hS_ => (ex_fieldAddr (off' := 0) rfl rfl Tryd.underlying101 rfl tsz2 rfl)) hS ?_
        refine drwp_take rfl (guard_none rfl) rfl rfl (fun w_ hS_ => (ex_load1 rfl rfl Tryd.underlying2 rfl ((hS_.box_at 0 rfl) 0 _ rfl))) hS ?_
        refine drwp_take rfl (guard_none rfl) rfl rfl (fun w_ hS_ => (ex_fieldAddr (off' := 1) rfl rfl Tryd.underlying101 rfl tsz2 rfl)) hS ?_
        refine drwp_take rfl (guard_none rfl) rfl rfl (fun w_ hS_ => (ex_load1 rfl rfl Tryd.underlying2 rfl ((hS_.box_at 0 rfl) 1 _ rfl))) hS ?_
        refine drwp_one rfl (guard_none rfl) rfl rfl (does_callk rfl callok76 rfl (impl_dec.calls (x0 := (gt x0.fIns a3199).fTx) (HM.tab htab) h3229)) ?_
        rintro _ w3240 ⟨rfl, hn⟩
        replace HM : Mem w [] w3240 [own kStr 9 v3196 a3197, box b3223 101 [.int .i64 ((gt x0.fIns a3199).fTx), .int .i64 ((gt x0.fIns a3199).fAt)], box b3061 33 [.int .i64 x0.fKind, .int .i64 x0.fMember, p0_0, p0_1], own kStr 9 v3093 a3094] := HM.call hn
        refine ⟨Mem.suf (M := [own kStr 9 v3196 a3197]) HM, ?_⟩
        have hS := Mem.suf (M := [own kStr 9 v3196 a3197]) HM
        refine drwp_take rfl (guard_none rfl) rfl rfl (fun w_ hS_ => (ex_sadd rfl rfl rfl (leB_le e3230))) hS ?_
        refine drwp_one rfl (guard_none rfl) rfl rfl (does_callk rfl callok76 rfl (impl_dec.calls (x0 := (gt x0.fIns a3199).fAt) (HM.tab htab) h3232)) ?_
        rintro _ w3241 ⟨rfl, hn⟩
        replace HM : Mem w [] w3241 [own kStr 9 v3196 a3197, box b3223 101 [.int .i64 ((gt x0.fIns a3199).fTx), .int .i64 ((gt x0.fIns a3199).fAt)], box b3061 33 [.int .i64 x0.fKind, .int .i64 x0.fMember, p0_0, p0_1], own kStr 9 v3093 a3094] := HM.call hn
        refine ⟨Mem.suf (M := [own kStr 9 v3196 a3197]) HM, ?_⟩
        have hS := Mem.suf (M := [own kStr 9 v3196 a3197]) HM
        refine drwp_take rfl (guard_none rfl) rfl rfl (fun w_ hS_ => (ex_sadd rfl rfl rfl (leB_le e3233))) hS ?_
        refine drwp_one rfl (guard_none rfl) rfl rfl (does_lit (e := 9) (cs := [.string ((t3228 ++ (⟨#[58]⟩ : ByteArray)) ++ t3231)]) (xs := ([(t3228 ++ (⟨#[58]⟩ : ByteArray)) ++ t3231] : List ByteArray)) kStr rfl rfl (fun _ => by kernel_rfl) rfl rfl (fun _ _ h => by have h' : _ = [] := h; subst h'; exact (Elems.cons (d := kStr) (f := []) ⟨rfl, rfl⟩ .nil)) HM.emp) ?_
        rintro v3234 w3242 HM
        refine ⟨Mem.suf (M := [own kStr 9 v3234 ([(t3228 ++ (⟨#[58]⟩ : ByteArray)) ++ t3231] : List ByteArray), own kStr 9 v3196 a3197]) HM, ?_⟩
        have hS := Mem.suf (M := [own kStr 9 v3234 ([(t3228 ++ (⟨#[58]⟩ : ByteArray)) ++ t3231] : List ByteArray), own kStr 9 v3196 a3197]) HM
        replace HM := HM.front 1 rfl rfl
        refine drwp_one rfl (guard_none rfl) rfl rfl (does_appendR kStr flat_plain rfl rfl rfl Tryd.underlying103 tsz9 rfl tby9 tz9 rfl rfl (leB_le e3237) (HM.own_rd 1 rfl) HM) ?_
        rintro v3238 w3243 HM
        refine ⟨Mem.suf (M := [own kStr 9 v3238 (a3197 ++ ([(t3228 ++ (⟨#[58]⟩ : ByteArray)) ++ t3231] : List ByteArray)), own kStr 9 v3234 ([(t3228 ++ (⟨#[58]⟩ : ByteArray)) ++ t3231] : List ByteArray)]) HM, ?_⟩
        have hS := Mem.suf (M := [own kStr 9 v3238 (a3197 ++ ([(t3228 ++ (⟨#[58]⟩ : ByteArray)) ++ t3231] : List ByteArray)), own kStr 9 v3234 ([(t3228 ++ (⟨#[58]⟩ : ByteArray)) ++ t3231] : List ByteArray)]) HM
        refine drwp_take rfl (guard_none rfl) rfl rfl (fun w_ hS_ => (ex_assign rfl rfl)) hS ?_
        refine drwp_done ?_
        refine at_block ?_
        refine at_then ?_
        refine run_region rfl ?_
        refine ops_ex rfl (guard_none rfl) rfl rfl (ex_add rfl rfl rfl) ?_
        refine ops_ex rfl (guard_none rfl) rfl rfl (ex_move rfl rfl) ?_
        refine ops_nil ?_
        replace HM := (HM.front 1 rfl rfl).drop
        replace HM := (HM.front 1 rfl rfl).drop
        replace HM := HM.front 2 rfl rfl
        replace HM := HM.front 2 rfl rfl
        exact at_again k3218 (ρ1 := [(1, .pointer (some ⟨b3061, 0, none⟩)), (4, v3093), (5, v3238), (28, p0_0), (29, .int .i64 (x0.fIns.length : Int)), (30, .int .i64 (wrap64 (a3199 + 1)))]) (Nat.lt_succ_self _) ⟨_, _, _, ho3177, rfl, HM⟩ (Sub.cons rfl (Sub.cons rfl (Sub.cons rfl (Sub.cons rfl (Sub.cons rfl (Sub.cons rfl Sub.nil))))))
      · replace ho3177 := cond_f hb3220 ho3177
        refine run_exit ?_
        refine at_then_exit ?_
        refine at_then_exit ?_
        refine at_block_exit ?_
        exact at_mid (ρ' := [(1, .pointer (some ⟨b3061, 0, none⟩)), (4, v3093), (5, v3196)]) ⟨_, _, (Option.some.inj ho3177), rfl, HM⟩ (Sub.cons rfl (Sub.cons rfl (Sub.cons rfl Sub.nil)))
    · rintro _ w3244 ⟨v3173, a3174, rfl, rfl, HM⟩
      refine run_seq ?_
      obtain ⟨t3245, h3246, H⟩ := bind_some H
      obtain ⟨e3250, H⟩ := chk_some H
      refine run_region rfl ?_
      refine ops_ex rfl (guard_none rfl) rfl rfl (ex_move rfl rfl) ?_
      refine ops_ex rfl (guard_none rfl) rfl rfl (ex_move rfl rfl) ?_
      refine ops_does rfl (guard_none rfl) rfl rfl (does_callk rfl callok77 rfl (strings_Join.calls (x0 := a3174) (x1 := (⟨#[43]⟩ : ByteArray)) (HM.own_rd 2 rfl) h3246)) ?_
      rintro _ w3253 ⟨rfl, hn⟩
      replace HM : Mem w [] w3253 [box b3061 33 [.int .i64 x0.fKind, .int .i64 x0.fMember, p0_0, p0_1], own kStr 9 v3093 a3094, own kStr 9 v3173 a3174] := HM.call hn
      refine ops_does rfl (guard_none rfl) rfl rfl (does_lit (e := 9) (cs := [.string t3245]) (xs := ([t3245] : List ByteArray)) kStr rfl rfl (fun _ => by kernel_rfl) rfl rfl (fun _ _ h => by have h' : _ = [] := h; subst h'; exact (Elems.cons (d := kStr) (f := []) ⟨rfl, rfl⟩ .nil)) HM.emp) ?_
      rintro v3247 w3254 HM
      replace HM := HM.front 2 rfl rfl
      refine ops_does rfl (guard_none rfl) rfl rfl (does_appendR kStr flat_plain rfl rfl rfl Tryd.underlying103 tsz9 rfl tby9 tz9 rfl rfl (leB_le e3250) (HM.own_rd 1 rfl) HM) ?_
      rintro v3251 w3255 HM
      refine ops_ex rfl (guard_none rfl) rfl rfl (ex_assign rfl rfl) ?_
      refine ops_nil ?_
      refine at_then ?_
      obtain ⟨o3323, ho3324, H⟩ := bind_some H
      refine run_mid (fun ρ_ w_ => ∃ v3320 : Value, ∃ a3321 : List ByteArray, a3321 = o3323 ∧ ρ_ = [(4, v3320)] ∧ Mem w [] w_ [own kStr 9 v3320 a3321]) ?_ ?_
      · clear H
        refine run_seq ?_
        refine run_region rfl ?_
        refine ops_ex rfl (guard_none rfl) rfl rfl (ex_fieldAddr (off' := 3) rfl rfl Tryd.underlying33 rfl tsz31 rfl) ?_
        refine ops_ex rfl (guard_none rfl) rfl rfl (ex_load1 rfl rfl Tryd.underlying31 rfl ((HM.box_at 2 rfl) 3 _ rfl)) ?_
        refine ops_ex rfl (guard_none rfl) rfl rfl (ex_len (d := kOut) (xs := x0.fOuts) rfl rfl Tryd.underlying31 hp0_1) ?_
        refine ops_ex rfl (guard_none rfl) rfl rfl (ex_move rfl rfl) ?_
        refine ops_nil ?_
        refine at_then ?_
        refine run_block ?_
        replace HM := (HM.front 1 rfl rfl).drop
        replace HM := (HM.front 1 rfl rfl).drop
        replace HM := (HM.front 1 rfl rfl).drop
        refine run_loop (fun k_ ρ_ w_ => ∃ v3345 : Value, ∃ a3346 : List ByteArray, ∃ a3348 : Int, impl_txText.l1 x0 k_ a3346 a3348 = some o3323 ∧ ρ_ = [(4, v3345), (52, p0_1), (53, .int .i64 (x0.fOuts.length : Int)), (54, .int .i64 a3348)] ∧ Mem w [] w_ [own kStr 9 v3345 a3346]) k (ρ1 := [(4, v3251), (52, p0_1), (53, .int .i64 (x0.fOuts.length : Int)), (54, .int .i64 0)]) ⟨_, _, _, ho3324, rfl, HM⟩ (Sub.cons rfl (Sub.cons rfl (Sub.cons rfl (Sub.cons rfl Sub.nil)))) ?_
        clear HM ho3324
        rintro k3369 _ w3370 ⟨v3345, a3346, a3348, ho3324, rfl, HM⟩
        obtain _ | k3369 := k3369
        · exact nomatch ((impl_txText.l1_z x0 a3346 a3348).symm.trans ho3324)
        replace ho3324 := (impl_txText.l1_s x0 k3369 a3346 a3348).symm.trans ho3324
        refine run_seq ?_
        refine run_region rfl ?_
        refine ops_ex rfl (guard_none rfl) rfl rfl (ex_lss rfl rfl rfl) ?_
        refine ops_nil ?_
        refine at_then ?_
        refine run_seq ?_
        refine run_cond (b := (decide (a3348 < (x0.fOuts.length : Int)))) rfl (fun hb3371 => ?_) (fun hb3371 => ?_)
        · replace ho3324 := cond_t hb3371 ho3324
          refine run_skip ?_
          refine at_then ?_
          refine run_seq ?_
          refine run_block ?_
          refine run_seq ?_
          obtain ⟨e3372, ho3324⟩ := chk_some ho3324
          refine run_region rfl ?_
          obtain ⟨kv3374, hc3373, hk3375⟩ : ∃ u, CellsAt _ (sb p0_1) (so p0_1 + (a3348).toNat * 4) [(.int .i64 ((gt x0.fOuts a3348).fValue)), u, (.int .i64 ((gt x0.fOuts a3348).fRule.fNeed)), (.int .i64 ((gt x0.fOuts a3348).fRule.fAfter))] ∧ RdS kInt _ u ((gt x0.fOuts a3348).fRule.fKeys) := rd_with1 hp0_1 e3372
          refine ops_ex rfl (guard_none rfl) rfl rfl (ex_indexAddr (d := kOut) rfl rfl rfl Tryd.underlying31 tsz106 hp0_1 (idx_lo e3372) (idx_hi e3372)) ?_
          refine ops_ex rfl (guard_none rfl) rfl rfl (ex_loadN (cs := [(.int .i64 ((gt x0.fOuts a3348).fValue)), kv3374, (.int .i64 ((gt x0.fOuts a3348).fRule.fNeed)), (.int .i64 ((gt x0.fOuts a3348).fRule.fAfter))]) rfl rfl Tryd.underlying106 rfl tsz106 rfl ((HM.at_ hc3373).sub 0 4 rfl)) ?_
          refine ops_does rfl (guard_none rfl) rfl rfl (does_alloc (cs := [.int .i64 0, .slice none 0 0, .int .i64 0, .int .i64 0]) rfl tz106 rfl HM) ?_
          rintro _ w3379 ⟨b3376, rfl, HM⟩
          refine ops_doesS rfl (guard_none rfl) rfl (does_store (vs := [.int .i64 ((gt x0.fOuts a3348).fValue), kv3374, .int .i64 ((gt x0.fOuts a3348).fRule.fNeed), .int .i64 ((gt x0.fOuts a3348).fRule.fAfter)]) (cs' := [.int .i64 ((gt x0.fOuts a3348).fValue), kv3374, .int .i64 ((gt x0.fOuts a3348).fRule.fNeed), .int .i64 ((gt x0.fOuts a3348).fRule.fAfter)]) rfl rfl rfl rfl tsz106 (Ones.int (Ones.rd hk3375 (Ones.int (Ones.int Ones.nil)))) rfl rfl HM) ?_
          rintro w3380 HM
          refine ops_nil ?_
          refine at_then ?_
          obtain ⟨t3381, h3382, ho3324⟩ := bind_some ho3324
          obtain ⟨e3383, ho3324⟩ := chk_some ho3324
          obtain ⟨t3384, h3385, ho3324⟩ := bind_some ho3324
          obtain ⟨e3386, ho3324⟩ := chk_some ho3324
          obtain ⟨e3390, ho3324⟩ := chk_some ho3324
          replace HM := HM.front 1 rfl rfl
          refine run_drawf (fun w_ => Mem w [] w_ [box b3376 106 [.int .i64 ((gt x0.fOuts a3348).fValue), kv3374, .int .i64 ((gt x0.fOuts a3348).fRule.fNeed), .int .i64 ((gt x0.fOuts a3348).fRule.fAfter)]]) [(0, true), (1, true), (2, true), (5, true), (6, true), (3, false), (4, true), (7, false), (8, true), (9, false), (10, false), (11, true)] mixed rfl rfl (by kernel_rfl) ?_
          replace HM := HM.grow (fr_drew _)
          have hS := Mem.suf (M := [own kStr 9 v3345 a3346]) HM
          refine drwp_take rfl (guard_none rfl) rfl rfl (fun w_ hS_ => (ex_move rfl rfl)) hS ?_
          refine drwp_take rfl (guard_none rfl) rfl rfl (fun w_ hS_ => (ex_fieldAddr (off' := 0) rfl rfl Tryd.underlying106 rfl tsz2 rfl)) hS ?_
          refine drwp_take rfl (guard_none rfl) rfl rfl (fun w_ hS_ => (ex_load1 rfl rfl Tryd.underlying2 rfl ((hS_.box_at 0 rfl) 0 _ rfl))) hS ?_
          refine drwp_take rfl (guard_none rfl) rfl rfl (fun w_ hS_ => (ex_fieldAddr (off' := 1) rfl rfl Tryd.underlying106 rfl tsz40 rfl)) hS ?_
          refine drwp_take rfl (guard_none rfl) rfl rfl (fun w_ hS_ => (ex_loadN (cs := [kv3374, (.int .i64 ((gt x0.fOuts a3348).fRule.fNeed)), (.int .i64 ((gt x0.fOuts a3348).fRule.fAfter))]) rfl rfl Tryd.underlying40 rfl tsz40 rfl ((hS_.box_at 0 rfl).sub 1 3 rfl))) hS ?_
          refine drwp_one rfl (guard_none rfl) rfl rfl (does_callk rfl callok76 rfl (impl_dec.calls (x0 := (gt x0.fOuts a3348).fValue) (HM.tab htab) h3382)) ?_
          rintro _ w3393 ⟨rfl, hn⟩
          replace HM : Mem w [] w3393 [own kStr 9 v3345 a3346, box b3376 106 [.int .i64 ((gt x0.fOuts a3348).fValue), kv3374, .int .i64 ((gt x0.fOuts a3348).fRule.fNeed), .int .i64 ((gt x0.fOuts a3348).fRule.fAfter)]] := HM.call hn
          refine ⟨Mem.suf (M := [own kStr 9 v3345 a3346]) HM, ?_⟩
          have hS := Mem.suf (M := [own kStr 9 v3345 a3346]) HM
          refine drwp_take rfl (guard_none rfl) rfl rfl (fun w_ hS_ => (ex_sadd rfl rfl rfl (leB_le e3383))) hS ?_
          refine drwp_one rfl (guard_none rfl) rfl rfl (does_callk rfl callok78 rfl (impl_ruleText.calls (x0 := (gt x0.fOuts a3348).fRule) (x1 := (⟨#[95]⟩ : ByteArray)) (HM.tab htab) (HM.rd hk3375) h3385)) ?_
          rintro _ w3394 ⟨rfl, hn⟩
          replace HM : Mem w [] w3394 [own kStr 9 v3345 a3346, box b3376 106 [.int .i64 ((gt x0.fOuts a3348).fValue), kv3374, .int .i64 ((gt x0.fOuts a3348).fRule.fNeed), .int .i64 ((gt x0.fOuts a3348).fRule.fAfter)]] := HM.call hn
          refine ⟨Mem.suf (M := [own kStr 9 v3345 a3346]) HM, ?_⟩
          have hS := Mem.suf (M := [own kStr 9 v3345 a3346]) HM
          refine drwp_take rfl (guard_none rfl) rfl rfl (fun w_ hS_ => (ex_sadd rfl rfl rfl (leB_le e3386))) hS ?_
          refine drwp_one rfl (guard_none rfl) rfl rfl (does_lit (e := 9) (cs := [.string ((t3381 ++ (⟨#[61]⟩ : ByteArray)) ++ t3384)]) (xs := ([(t3381 ++ (⟨#[61]⟩ : ByteArray)) ++ t3384] : List ByteArray)) kStr rfl rfl (fun _ => by kernel_rfl) rfl rfl (fun _ _ h => by have h' : _ = [] := h; subst h'; exact (Elems.cons (d := kStr) (f := []) ⟨rfl, rfl⟩ .nil)) HM.emp) ?_
          rintro v3387 w3395 HM
          refine ⟨Mem.suf (M := [own kStr 9 v3387 ([(t3381 ++ (⟨#[61]⟩ : ByteArray)) ++ t3384] : List ByteArray), own kStr 9 v3345 a3346]) HM, ?_⟩
          have hS := Mem.suf (M := [own kStr 9 v3387 ([(t3381 ++ (⟨#[61]⟩ : ByteArray)) ++ t3384] : List ByteArray), own kStr 9 v3345 a3346]) HM
          replace HM := HM.front 1 rfl rfl
          refine drwp_one rfl (guard_none rfl) rfl rfl (does_appendR kStr flat_plain rfl rfl rfl Tryd.underlying103 tsz9 rfl tby9 tz9 rfl rfl (leB_le e3390) (HM.own_rd 1 rfl) HM) ?_
          rintro v3391 w3396 HM
          refine ⟨Mem.suf (M := [own kStr 9 v3391 (a3346 ++ ([(t3381 ++ (⟨#[61]⟩ : ByteArray)) ++ t3384] : List ByteArray)), own kStr 9 v3387 ([(t3381 ++ (⟨#[61]⟩ : ByteArray)) ++ t3384] : List ByteArray)]) HM, ?_⟩
          have hS := Mem.suf (M := [own kStr 9 v3391 (a3346 ++ ([(t3381 ++ (⟨#[61]⟩ : ByteArray)) ++ t3384] : List ByteArray)), own kStr 9 v3387 ([(t3381 ++ (⟨#[61]⟩ : ByteArray)) ++ t3384] : List ByteArray)]) HM
          refine drwp_take rfl (guard_none rfl) rfl rfl (fun w_ hS_ => (ex_assign rfl rfl)) hS ?_
          refine drwp_done ?_
          refine at_block ?_
          refine at_then ?_
          refine run_region rfl ?_
          refine ops_ex rfl (guard_none rfl) rfl rfl (ex_add rfl rfl rfl) ?_
          refine ops_ex rfl (guard_none rfl) rfl rfl (ex_move rfl rfl) ?_
          refine ops_nil ?_
          replace HM := (HM.front 1 rfl rfl).drop
          replace HM := (HM.front 1 rfl rfl).drop
          exact at_again k3369 (ρ1 := [(4, v3391), (52, p0_1), (53, .int .i64 (x0.fOuts.length : Int)), (54, .int .i64 (wrap64 (a3348 + 1)))]) (Nat.lt_succ_self _) ⟨_, _, _, ho3324, rfl, HM⟩ (Sub.cons rfl (Sub.cons rfl (Sub.cons rfl (Sub.cons rfl Sub.nil))))
        · replace ho3324 := cond_f hb3371 ho3324
          refine run_exit ?_
          refine at_then_exit ?_
          refine at_then_exit ?_
          refine at_block_exit ?_
          exact at_mid (ρ' := [(4, v3345)]) ⟨_, _, (Option.some.inj ho3324), rfl, HM⟩ (Sub.cons rfl Sub.nil)
      · rintro _ w3397 ⟨v3320, a3321, rfl, rfl, HM⟩
        refine run_seq ?_
        obtain ⟨t3398, h3399, H⟩ := bind_some H
        refine run_region rfl ?_
        refine ops_ex rfl (guard_none rfl) rfl rfl (ex_move rfl rfl) ?_
        refine ops_does rfl (guard_none rfl) rfl rfl (does_callk rfl callok77 rfl (strings_Join.calls (x0 := a3321) (x1 := (⟨#[32]⟩ : ByteArray)) (HM.own_rd 0 rfl) h3399)) ?_
        rintro _ w3400 ⟨rfl, hn⟩
        replace HM : Mem w [] w3400 [own kStr 9 v3320 a3321] := HM.call hn
        refine ops_ex rfl (guard_none rfl) rfl rfl (ex_assign rfl rfl) ?_
        refine ops_nil ?_
        refine at_then ?_
        refine run_seq ?_
        refine run_seq ?_
        refine run_region rfl ?_
        refine ops_ex rfl (guard_none rfl) rfl rfl (ex_move rfl rfl) ?_
        refine ops_ex rfl (guard_none rfl) rfl rfl (ex_strlen rfl rfl Tryd.underlying9) ?_
        refine ops_ex rfl (guard_none rfl) rfl rfl (ex_gtr rfl rfl rfl) ?_
        refine ops_nil ?_
        refine at_then ?_
        refine run_cond (b := (decide (300 < (t3398.size : Int)))) rfl (fun hb3401 => ?_) (fun hb3401 => ?_)
        · replace H := cond_t hb3401 H
          refine run_seq ?_
          refine run_region rfl ?_
          refine ops_ex rfl (guard_none rfl) rfl rfl (ex_assign rfl rfl) ?_
          refine ops_ex rfl (guard_none rfl) rfl rfl (ex_assign rfl rfl) ?_
          refine ops_nil ?_
          refine at_then ?_
          refine run_ret ?_
          refine at_then_ret ?_
          replace HM := (HM.front 0 rfl rfl).drop
          have hR := Option.some.inj H
          subst hR
          exact at_ret2 rfl rfl rfl ⟨_, rfl, rfl, HM⟩
        · replace H := cond_f hb3401 H
          refine run_skip ?_
          refine at_then ?_
          refine run_seq ?_
          refine run_region rfl ?_
          refine ops_ex rfl (guard_none rfl) rfl rfl (ex_move rfl rfl) ?_
          refine ops_ex rfl (guard_none rfl) rfl rfl (ex_assign rfl rfl) ?_
          refine ops_ex rfl (guard_none rfl) rfl rfl (ex_assign rfl rfl) ?_
          refine ops_nil ?_
          refine at_then ?_
          refine run_ret ?_
          replace HM := (HM.front 0 rfl rfl).drop
          have hR := Option.some.inj H
          subst hR
          exact at_ret2 rfl rfl rfl ⟨_, rfl, rfl, HM⟩

def impl_TxText.f (k : Nat) (x0 : Tx) : Option TextResult := ((impl_TxFault.f k x0).bind fun t3415 => (bif (t3415 != 0) then some (⟨t3415, (⟨#[]⟩ : ByteArray)⟩ : TextResult) else ((impl_txText.f k x0).bind fun t3420 => some (⟨t3420.2, t3420.1⟩ : TextResult))))
theorem impl_TxText.calls {k : Nat} {x0 : Tx} {p0_0 : Value} {p0_1 : Value} {w : World} (htab : Tab w) (hp0_0 : RdS kRef w p0_0 x0.fIns) (hp0_1 : RdS kOut w p0_1 x0.fOuts) {r : TextResult} (H : impl_TxText.f k x0 = some r) :
    Calls Tryd.prog 9 ([.agg #[(.int .i64 x0.fKind), (.int .i64 x0.fMember), p0_0, p0_1]] : List Value).toArray w (fun e w_ => ∃ v, e = .returned v ∧ v = (.agg #[.int .i64 r.fCode, .string r.fText]) ∧ Mem w [] w_ []) := by
  have HM := Mem.start w
  refine calls_run (N := 20) Tryd.func9 rfl rfl rfl rfl ?_
  unfold impl_TxText.f at H
  refine run_seq ?_
  refine run_region rfl ?_
  refine ops_does rfl (guard_none rfl) rfl rfl (does_box (cs := [.int .i64 x0.fKind, .int .i64 x0.fMember, p0_0, p0_1]) rfl rfl rfl HM) ?_
  rintro _ w3410 ⟨b3404, rfl, HM⟩
  refine ops_does rfl (guard_none rfl) rfl rfl (does_alloc (cs := [.int .i64 0, .string (⟨#[]⟩ : ByteArray)]) rfl tz28 rfl HM) ?_
  rintro _ w3411 ⟨b3407, rfl, HM⟩
  refine ops_nil ?_
  refine at_then ?_
  refine run_seq ?_
  refine run_seq ?_
  obtain ⟨t3415, h3416, H⟩ := bind_some H
  refine run_region rfl ?_
  refine ops_ex rfl (guard_none rfl) rfl rfl (ex_loadN (cs := [(.int .i64 x0.fKind), (.int .i64 x0.fMember), p0_0, p0_1]) rfl rfl Tryd.underlying33 rfl tsz33 rfl ((HM.box_at 1 rfl).sub 0 4 rfl)) ?_
  refine ops_does rfl (guard_none rfl) rfl rfl (does_callk rfl callok35 rfl (impl_TxFault.calls (x0 := x0) (HM.rd hp0_0) (HM.rd hp0_1) h3416)) ?_
  rintro _ w3417 ⟨rfl, hn⟩
  replace HM : Mem w [] w3417 [box b3407 28 [.int .i64 0, .string (⟨#[]⟩ : ByteArray)], box b3404 33 [.int .i64 x0.fKind, .int .i64 x0.fMember, p0_0, p0_1]] := HM.call hn
  refine ops_ex rfl (guard_none rfl) rfl rfl (ex_assign rfl rfl) ?_
  refine ops_nil ?_
  refine at_then ?_
  refine run_seq ?_
  refine run_region rfl ?_
  refine ops_ex rfl (guard_none rfl) rfl rfl (ex_move rfl rfl) ?_
  refine ops_ex rfl (guard_none rfl) rfl rfl (ex_neq rfl rfl rfl) ?_
  refine ops_nil ?_
  refine at_then ?_
  refine run_cond (b := (t3415 != 0)) rfl (fun hb3418 => ?_) (fun hb3418 => ?_)
  · replace H := cond_t hb3418 H
    refine run_seq ?_
    refine run_region rfl ?_
    refine ops_ex rfl (guard_none rfl) rfl rfl (ex_move rfl rfl) ?_
    refine ops_ex rfl (guard_none rfl) rfl rfl (ex_build (cells := #[(.int .i64 t3415), (.string (⟨#[]⟩ : ByteArray))]) rfl rfl (by kernel_rfl)) ?_
    refine ops_doesS rfl (guard_none rfl) rfl (does_store (vs := [.int .i64 t3415, .string (⟨#[]⟩ : ByteArray)]) (cs' := [.int .i64 t3415, .string (⟨#[]⟩ : ByteArray)]) rfl rfl rfl rfl tsz28 (Ones.int (Ones.str Ones.nil)) rfl rfl HM) ?_
    rintro w3419 HM
    refine ops_nil ?_
    refine at_then ?_
    refine run_ret ?_
    refine at_then_ret ?_
    replace HM := (HM.front 1 rfl rfl).drop
    have hcb0 := HM.box_at 0 rfl
    replace HM := (HM.front 0 rfl rfl).drop
    have hR := Option.some.inj H
    subst hR
    exact at_retN rfl rfl Tryd.underlying28 rfl tsz28 rfl hcb0 ⟨_, rfl, rfl, HM⟩
  · replace H := cond_f hb3418 H
    refine run_skip ?_
    refine at_then ?_
    refine run_seq ?_
    obtain ⟨t3420, h3421, H⟩ := bind_some H
    refine run_region rfl ?_
    refine ops_ex rfl (guard_none rfl) rfl rfl (ex_loadN (cs := [(.int .i64 x0.fKind), (.int .i64 x0.fMember), p0_0, p0_1]) rfl rfl Tryd.underlying33 rfl tsz33 rfl ((HM.box_at 1 rfl).sub 0 4 rfl)) ?_
    refine ops_does rfl (guard_none rfl) rfl rfl (does_callk rfl callok36 rfl (impl_txText.calls (x0 := x0) (HM.tab htab) (HM.rd hp0_0) (HM.rd hp0_1) h3421)) ?_
    rintro _ w3422 ⟨rfl, hn⟩
    replace HM : Mem w [] w3422 [box b3407 28 [.int .i64 0, .string (⟨#[]⟩ : ByteArray)], box b3404 33 [.int .i64 x0.fKind, .int .i64 x0.fMember, p0_0, p0_1]] := HM.call hn
    refine ops_ex rfl (guard_none rfl) rfl rfl (ex_move rfl rfl) ?_
    refine ops_ex rfl (guard_none rfl) rfl rfl (ex_extract rfl rfl rfl) ?_
    refine ops_ex rfl (guard_none rfl) rfl rfl (ex_extract rfl rfl rfl) ?_
    refine ops_ex rfl (guard_none rfl) rfl rfl (ex_assign rfl rfl) ?_
    refine ops_ex rfl (guard_none rfl) rfl rfl (ex_assign rfl rfl) ?_
    refine ops_nil ?_
    refine at_then ?_
    refine run_seq ?_
    refine run_region rfl ?_
    refine ops_ex rfl (guard_none rfl) rfl rfl (ex_move rfl rfl) ?_
    refine ops_ex rfl (guard_none rfl) rfl rfl (ex_move rfl rfl) ?_
    refine ops_ex rfl (guard_none rfl) rfl rfl (ex_build (cells := #[(.int .i64 t3420.2), (.string t3420.1)]) rfl rfl (by kernel_rfl)) ?_
    refine ops_doesS rfl (guard_none rfl) rfl (does_store (vs := [.int .i64 t3420.2, .string t3420.1]) (cs' := [.int .i64 t3420.2, .string t3420.1]) rfl rfl rfl rfl tsz28 (Ones.int (Ones.str Ones.nil)) rfl rfl HM) ?_
    rintro w3423 HM
    refine ops_nil ?_
    refine at_then ?_
    refine run_ret ?_
    replace HM := (HM.front 1 rfl rfl).drop
    have hcb0 := HM.box_at 0 rfl
    replace HM := (HM.front 0 rfl rfl).drop
    have hR := Option.some.inj H
    subst hR
    exact at_retN rfl rfl Tryd.underlying28 rfl tsz28 rfl hcb0 ⟨_, rfl, rfl, HM⟩

def laws_eqTextResult.f (k : Nat) (x0 : TextResult) (x1 : TextResult) : Option Bool := (bif (x0.fCode != x1.fCode) then some false else (bif (!sEq x0.fText x1.fText) then some false else some true))
theorem laws_eqTextResult.calls {k : Nat} {x0 : TextResult} {x1 : TextResult}  {w : World}  {r : Bool} (H : laws_eqTextResult.f k x0 x1 = some r) :
    Calls Tryd.prog 10 ([.agg #[(.int .i64 x0.fCode), (.string x0.fText)], .agg #[(.int .i64 x1.fCode), (.string x1.fText)]] : List Value).toArray w (fun e w_ => ∃ v, e = .returned v ∧ v = (.bool r) ∧ Mem w [] w_ []) := by
  have HM := Mem.start w
  refine calls_run (N := 15) Tryd.func10 rfl rfl rfl rfl ?_
  unfold laws_eqTextResult.f at H
  refine run_seq ?_
  refine run_region rfl ?_
  refine ops_does rfl (guard_none rfl) rfl rfl (does_box (cs := [.int .i64 x0.fCode, .string x0.fText]) rfl rfl rfl HM) ?_
  rintro _ w3444 ⟨b3438, rfl, HM⟩
  refine ops_does rfl (guard_none rfl) rfl rfl (does_box (cs := [.int .i64 x1.fCode, .string x1.fText]) rfl rfl rfl HM) ?_
  rintro _ w3445 ⟨b3441, rfl, HM⟩
  refine ops_ex rfl (guard_none rfl) rfl rfl (ex_assign rfl rfl) ?_
  refine ops_nil ?_
  refine at_then ?_
  refine run_seq ?_
  refine run_seq ?_
  refine run_region rfl ?_
  refine ops_ex rfl (guard_none rfl) rfl rfl (ex_fieldAddr (off' := 0) rfl rfl Tryd.underlying28 rfl tsz2 rfl) ?_
  refine ops_ex rfl (guard_none rfl) rfl rfl (ex_load1 rfl rfl Tryd.underlying2 rfl ((HM.box_at 1 rfl) 0 _ rfl)) ?_
  refine ops_ex rfl (guard_none rfl) rfl rfl (ex_fieldAddr (off' := 0) rfl rfl Tryd.underlying28 rfl tsz2 rfl) ?_
  refine ops_ex rfl (guard_none rfl) rfl rfl (ex_load1 rfl rfl Tryd.underlying2 rfl ((HM.box_at 0 rfl) 0 _ rfl)) ?_
  refine ops_ex rfl (guard_none rfl) rfl rfl (ex_neq rfl rfl rfl) ?_
  refine ops_nil ?_
  refine at_then ?_
  refine run_cond (b := (x0.fCode != x1.fCode)) rfl (fun hb3447 => ?_) (fun hb3447 => ?_)
  · replace H := cond_t hb3447 H
    refine run_seq ?_
    refine run_region rfl ?_
    refine ops_ex rfl (guard_none rfl) rfl rfl (ex_assign rfl rfl) ?_
    refine ops_nil ?_
    refine at_then ?_
    refine run_ret ?_
    refine at_then_ret ?_
    replace HM := (HM.front 0 rfl rfl).drop
    replace HM := (HM.front 0 rfl rfl).drop
    have hR := Option.some.inj H
    subst hR
    exact at_ret1 rfl rfl ⟨_, rfl, rfl, HM⟩
  · replace H := cond_f hb3447 H
    refine run_skip ?_
    refine at_then ?_
    refine run_seq ?_
    refine run_seq ?_
    refine run_region rfl ?_
    refine ops_ex rfl (guard_none rfl) rfl rfl (ex_fieldAddr (off' := 1) rfl rfl Tryd.underlying28 rfl tsz9 rfl) ?_
    refine ops_ex rfl (guard_none rfl) rfl rfl (ex_load1 rfl rfl Tryd.underlying9 rfl ((HM.box_at 1 rfl) 1 _ rfl)) ?_
    refine ops_ex rfl (guard_none rfl) rfl rfl (ex_fieldAddr (off' := 1) rfl rfl Tryd.underlying28 rfl tsz9 rfl) ?_
    refine ops_ex rfl (guard_none rfl) rfl rfl (ex_load1 rfl rfl Tryd.underlying9 rfl ((HM.box_at 0 rfl) 1 _ rfl)) ?_
    refine ops_ex rfl (guard_none rfl) rfl rfl (ex_sneq rfl rfl rfl) ?_
    refine ops_nil ?_
    refine at_then ?_
    refine run_cond (b := (!sEq x0.fText x1.fText)) rfl (fun hb3448 => ?_) (fun hb3448 => ?_)
    · replace H := cond_t hb3448 H
      refine run_seq ?_
      refine run_region rfl ?_
      refine ops_ex rfl (guard_none rfl) rfl rfl (ex_assign rfl rfl) ?_
      refine ops_nil ?_
      refine at_then ?_
      refine run_ret ?_
      refine at_then_ret ?_
      replace HM := (HM.front 0 rfl rfl).drop
      replace HM := (HM.front 0 rfl rfl).drop
      have hR := Option.some.inj H
      subst hR
      exact at_ret1 rfl rfl ⟨_, rfl, rfl, HM⟩
    · replace H := cond_f hb3448 H
      refine run_skip ?_
      refine at_then ?_
      refine run_seq ?_
      refine run_region rfl ?_
      refine ops_ex rfl (guard_none rfl) rfl rfl (ex_assign rfl rfl) ?_
      refine ops_nil ?_
      refine at_then ?_
      refine run_ret ?_
      replace HM := (HM.front 0 rfl rfl).drop
      replace HM := (HM.front 0 rfl rfl).drop
      have hR := Option.some.inj H
      subst hR
      exact at_ret1 rfl rfl ⟨_, rfl, rfl, HM⟩

def laws_eqRef.f (k : Nat) (x0 : Ref) (x1 : Ref) : Option Bool := (bif (x0.fTx != x1.fTx) then some false else (bif (x0.fAt != x1.fAt) then some false else some true))
theorem laws_eqRef.calls {k : Nat} {x0 : Ref} {x1 : Ref}  {w : World}  {r : Bool} (H : laws_eqRef.f k x0 x1 = some r) :
    Calls Tryd.prog 79 ([.agg #[(.int .i64 x0.fTx), (.int .i64 x0.fAt)], .agg #[(.int .i64 x1.fTx), (.int .i64 x1.fAt)]] : List Value).toArray w (fun e w_ => ∃ v, e = .returned v ∧ v = (.bool r) ∧ Mem w [] w_ []) := by
  have HM := Mem.start w
  refine calls_run (N := 15) Tryd.func79 rfl rfl rfl rfl ?_
  unfold laws_eqRef.f at H
  refine run_seq ?_
  refine run_region rfl ?_
  refine ops_does rfl (guard_none rfl) rfl rfl (does_box (cs := [.int .i64 x0.fTx, .int .i64 x0.fAt]) rfl rfl rfl HM) ?_
  rintro _ w3493 ⟨b3487, rfl, HM⟩
  refine ops_does rfl (guard_none rfl) rfl rfl (does_box (cs := [.int .i64 x1.fTx, .int .i64 x1.fAt]) rfl rfl rfl HM) ?_
  rintro _ w3494 ⟨b3490, rfl, HM⟩
  refine ops_ex rfl (guard_none rfl) rfl rfl (ex_assign rfl rfl) ?_
  refine ops_nil ?_
  refine at_then ?_
  refine run_seq ?_
  refine run_seq ?_
  refine run_region rfl ?_
  refine ops_ex rfl (guard_none rfl) rfl rfl (ex_fieldAddr (off' := 0) rfl rfl Tryd.underlying101 rfl tsz2 rfl) ?_
  refine ops_ex rfl (guard_none rfl) rfl rfl (ex_load1 rfl rfl Tryd.underlying2 rfl ((HM.box_at 1 rfl) 0 _ rfl)) ?_
  refine ops_ex rfl (guard_none rfl) rfl rfl (ex_fieldAddr (off' := 0) rfl rfl Tryd.underlying101 rfl tsz2 rfl) ?_
  refine ops_ex rfl (guard_none rfl) rfl rfl (ex_load1 rfl rfl Tryd.underlying2 rfl ((HM.box_at 0 rfl) 0 _ rfl)) ?_
  refine ops_ex rfl (guard_none rfl) rfl rfl (ex_neq rfl rfl rfl) ?_
  refine ops_nil ?_
  refine at_then ?_
  refine run_cond (b := (x0.fTx != x1.fTx)) rfl (fun hb3496 => ?_) (fun hb3496 => ?_)
  · replace H := cond_t hb3496 H
    refine run_seq ?_
    refine run_region rfl ?_
    refine ops_ex rfl (guard_none rfl) rfl rfl (ex_assign rfl rfl) ?_
    refine ops_nil ?_
    refine at_then ?_
    refine run_ret ?_
    refine at_then_ret ?_
    replace HM := (HM.front 0 rfl rfl).drop
    replace HM := (HM.front 0 rfl rfl).drop
    have hR := Option.some.inj H
    subst hR
    exact at_ret1 rfl rfl ⟨_, rfl, rfl, HM⟩
  · replace H := cond_f hb3496 H
    refine run_skip ?_
    refine at_then ?_
    refine run_seq ?_
    refine run_seq ?_
    refine run_region rfl ?_
    refine ops_ex rfl (guard_none rfl) rfl rfl (ex_fieldAddr (off' := 1) rfl rfl Tryd.underlying101 rfl tsz2 rfl) ?_
    refine ops_ex rfl (guard_none rfl) rfl rfl (ex_load1 rfl rfl Tryd.underlying2 rfl ((HM.box_at 1 rfl) 1 _ rfl)) ?_
    refine ops_ex rfl (guard_none rfl) rfl rfl (ex_fieldAddr (off' := 1) rfl rfl Tryd.underlying101 rfl tsz2 rfl) ?_
    refine ops_ex rfl (guard_none rfl) rfl rfl (ex_load1 rfl rfl Tryd.underlying2 rfl ((HM.box_at 0 rfl) 1 _ rfl)) ?_
    refine ops_ex rfl (guard_none rfl) rfl rfl (ex_neq rfl rfl rfl) ?_
    refine ops_nil ?_
    refine at_then ?_
    refine run_cond (b := (x0.fAt != x1.fAt)) rfl (fun hb3497 => ?_) (fun hb3497 => ?_)
    · replace H := cond_t hb3497 H
      refine run_seq ?_
      refine run_region rfl ?_
      refine ops_ex rfl (guard_none rfl) rfl rfl (ex_assign rfl rfl) ?_
      refine ops_nil ?_
      refine at_then ?_
      refine run_ret ?_
      refine at_then_ret ?_
      replace HM := (HM.front 0 rfl rfl).drop
      replace HM := (HM.front 0 rfl rfl).drop
      have hR := Option.some.inj H
      subst hR
      exact at_ret1 rfl rfl ⟨_, rfl, rfl, HM⟩
    · replace H := cond_f hb3497 H
      refine run_skip ?_
      refine at_then ?_
      refine run_seq ?_
      refine run_region rfl ?_
      refine ops_ex rfl (guard_none rfl) rfl rfl (ex_assign rfl rfl) ?_
      refine ops_nil ?_
      refine at_then ?_
      refine run_ret ?_
      replace HM := (HM.front 0 rfl rfl).drop
      replace HM := (HM.front 0 rfl rfl).drop
      have hR := Option.some.inj H
      subst hR
      exact at_ret1 rfl rfl ⟨_, rfl, rfl, HM⟩

def laws_eqRefS.l0 (x0 : List Ref) (x1 : List Ref) : Nat → Int → Option (Bool ⊕ Unit)
  | 0, _ => none
  | k + 1, a3557 => (bif (decide (a3557 < (x0.length : Int))) then (chk (idxOk a3557 x0.length) (chk (idxOk a3557 x1.length) ((laws_eqRef.f k (gt x0 a3557) (gt x1 a3557)).bind fun t3573 => (bif !t3573 then some (.inl false) else laws_eqRefS.l0 x0 x1 k (wrap64 (a3557 + 1)))))) else some (.inr ()))
theorem laws_eqRefS.l0_z (x0 : List Ref) (x1 : List Ref) (a3557 : Int) : laws_eqRefS.l0 x0 x1 0 a3557 = none := rfl
theorem laws_eqRefS.l0_s (x0 : List Ref) (x1 : List Ref) (k : Nat) (a3557 : Int) : laws_eqRefS.l0 x0 x1 (k + 1) a3557 = (bif (decide (a3557 < (x0.length : Int))) then (chk (idxOk a3557 x0.length) (chk (idxOk a3557 x1.length) ((laws_eqRef.f k (gt x0 a3557) (gt x1 a3557)).bind fun t3573 => (bif !t3573 then some (.inl false) else laws_eqRefS.l0 x0 x1 k (wrap64 (a3557 + 1)))))) else some (.inr ())) := rfl
def laws_eqRefS.f (k : Nat) (x0 : List Ref) (x1 : List Ref) : Option Bool := (bif ((x0.length : Int) != (x1.length : Int)) then some false else ((laws_eqRefS.l0 x0 x1 k 0).bind fun o3547 => thn o3547 (fun r => some r) (fun _ => some true)))
theorem laws_eqRefS.calls {k : Nat} {x0 : List Ref} {x1 : List Ref} {p0 : Value} {p1 : Value} {w : World} (hp0 : RdS kRef w p0 x0) (hp1 : RdS kRef w p1 x1) {r : Bool} (H : laws_eqRefS.f k x0 x1 = some r) :
    Calls Tryd.prog 37 ([p0, p1] : List Value).toArray w (fun e w_ => ∃ v, e = .returned v ∧ v = (.bool r) ∧ Mem w [] w_ []) := by
  have HM := Mem.start w
  refine calls_run (N := 27) Tryd.func37 rfl rfl rfl rfl ?_
  unfold laws_eqRefS.f at H
  refine run_seq ?_
  refine run_region rfl ?_
  refine ops_ex rfl (guard_none rfl) rfl rfl (ex_assign rfl rfl) ?_
  refine ops_nil ?_
  refine at_then ?_
  refine run_seq ?_
  refine run_seq ?_
  refine run_region rfl ?_
  refine ops_ex rfl (guard_none rfl) rfl rfl (ex_move rfl rfl) ?_
  refine ops_ex rfl (guard_none rfl) rfl rfl (ex_len (d := kRef) (xs := x0) rfl rfl Tryd.underlying30 hp0) ?_
  refine ops_ex rfl (guard_none rfl) rfl rfl (ex_move rfl rfl) ?_
  refine ops_ex rfl (guard_none rfl) rfl rfl (ex_len (d := kRef) (xs := x1) rfl rfl Tryd.underlying30 hp1) ?_
  refine ops_ex rfl (guard_none rfl) rfl rfl (ex_neq rfl rfl rfl) ?_
  refine ops_nil ?_
  refine at_then ?_
  refine run_cond (b := ((x0.length : Int) != (x1.length : Int))) rfl (fun hb3521 => ?_) (fun hb3521 => ?_)
  · replace H := cond_t hb3521 H
    refine run_seq ?_
    refine run_region rfl ?_
    refine ops_ex rfl (guard_none rfl) rfl rfl (ex_assign rfl rfl) ?_
    refine ops_nil ?_
    refine at_then ?_
    refine run_ret ?_
    refine at_then_ret ?_
    have hR := Option.some.inj H
    subst hR
    exact at_ret1 rfl rfl ⟨_, rfl, rfl, HM⟩
  · replace H := cond_f hb3521 H
    refine run_skip ?_
    refine at_then ?_
    obtain ⟨o3547, ho3548, H⟩ := bind_some H
    refine run_mid (fun ρ_ w_ => Sum.inr () = o3547 ∧ ρ_ = [] ∧ Mem w [] w_ []) ?_ ?_
    · skip
      refine run_seq ?_
      refine run_region rfl ?_
      refine ops_ex rfl (guard_none rfl) rfl rfl (ex_assign rfl rfl) ?_
      refine ops_nil ?_
      refine at_then ?_
      refine run_block ?_
      refine run_loop (fun k_ ρ_ w_ => ∃ a3557 : Int, laws_eqRefS.l0 x0 x1 k_ a3557 = some o3547 ∧ ρ_ = [(0, p0), (1, p1), (5, .int .i64 a3557)] ∧ Mem w [] w_ []) k (ρ1 := [(0, p0), (1, p1), (5, .int .i64 0)]) ⟨_, ho3548, rfl, HM⟩ (Sub.cons rfl (Sub.cons rfl (Sub.cons rfl Sub.nil))) ?_
      clear HM ho3548
      rintro k3566 _ w3567 ⟨a3557, ho3548, rfl, HM⟩
      obtain _ | k3566 := k3566
      · exact nomatch ((laws_eqRefS.l0_z x0 x1 a3557).symm.trans ho3548)
      replace ho3548 := (laws_eqRefS.l0_s x0 x1 k3566 a3557).symm.trans ho3548
      refine run_seq ?_
      refine run_seq ?_
      refine run_region rfl ?_
      refine ops_ex rfl (guard_none rfl) rfl rfl (ex_move rfl rfl) ?_
      refine ops_ex rfl (guard_none rfl) rfl rfl (ex_move rfl rfl) ?_
      refine ops_ex rfl (guard_none rfl) rfl rfl (ex_len (d := kRef) (xs := x0) rfl rfl Tryd.underlying30 hp0) ?_
      refine ops_ex rfl (guard_none rfl) rfl rfl (ex_lss rfl rfl rfl) ?_
      refine ops_nil ?_
      refine at_then ?_
      refine run_cond (b := (decide (a3557 < (x0.length : Int)))) rfl (fun hb3568 => ?_) (fun hb3568 => ?_)
      · replace ho3548 := cond_t hb3568 ho3548
        refine run_skip ?_
        refine at_then ?_
        refine run_seq ?_
        refine run_block ?_
        refine run_seq ?_
        obtain ⟨e3569, ho3548⟩ := chk_some ho3548
        obtain ⟨e3571, ho3548⟩ := chk_some ho3548
        obtain ⟨t3573, h3574, ho3548⟩ := bind_some ho3548
        refine run_drawf (fun w_ => Mem w [] w_ []) [(0, true), (1, true), (2, true), (3, true), (4, true), (5, true), (6, true), (7, true), (8, false), (9, true)] mixed rfl rfl (by kernel_rfl) ?_
        replace HM := HM.grow (fr_drew _)
        have hS := Mem.suf (M := []) HM
        refine drwp_take rfl (guard_none rfl) rfl rfl (fun w_ hS_ => (ex_move rfl rfl)) hS ?_
        refine drwp_take rfl (guard_none rfl) rfl rfl (fun w_ hS_ => (ex_move rfl rfl)) hS ?_
        have hc3570 : CellsAt _ (sb p0) (so p0 + (a3557).toNat * 2) [(.int .i64 ((gt x0 a3557).fTx)), (.int .i64 ((gt x0 a3557).fAt))] := rd_plain hp0 e3569
        refine drwp_take rfl (guard_none rfl) rfl rfl (fun w_ hS_ => (ex_indexAddr (d := kRef) rfl rfl rfl Tryd.underlying30 tsz101 hp0 (idx_lo e3569) (idx_hi e3569))) hS ?_
        refine drwp_take rfl (guard_none rfl) rfl rfl (fun w_ hS_ => (ex_loadN (cs := [(.int .i64 ((gt x0 a3557).fTx)), (.int .i64 ((gt x0 a3557).fAt))]) rfl rfl Tryd.underlying101 rfl tsz101 rfl ((hS_.at_ hc3570).sub 0 2 rfl))) hS ?_
        refine drwp_take rfl (guard_none rfl) rfl rfl (fun w_ hS_ => (ex_move rfl rfl)) hS ?_
        refine drwp_take rfl (guard_none rfl) rfl rfl (fun w_ hS_ => (ex_move rfl rfl)) hS ?_
        have hc3572 : CellsAt _ (sb p1) (so p1 + (a3557).toNat * 2) [(.int .i64 ((gt x1 a3557).fTx)), (.int .i64 ((gt x1 a3557).fAt))] := rd_plain hp1 e3571
        refine drwp_take rfl (guard_none rfl) rfl rfl (fun w_ hS_ => (ex_indexAddr (d := kRef) rfl rfl rfl Tryd.underlying30 tsz101 hp1 (idx_lo e3571) (idx_hi e3571))) hS ?_
        refine drwp_take rfl (guard_none rfl) rfl rfl (fun w_ hS_ => (ex_loadN (cs := [(.int .i64 ((gt x1 a3557).fTx)), (.int .i64 ((gt x1 a3557).fAt))]) rfl rfl Tryd.underlying101 rfl tsz101 rfl ((hS_.at_ hc3572).sub 0 2 rfl))) hS ?_
        refine drwp_one rfl (guard_none rfl) rfl rfl (does_callk rfl callok79 rfl (laws_eqRef.calls (x0 := (gt x0 a3557)) (x1 := (gt x1 a3557)) h3574)) ?_
        rintro _ w3575 ⟨rfl, hn⟩
        replace HM : Mem w [] w3575 [] := HM.call hn
        refine ⟨Mem.suf (M := []) HM, ?_⟩
        have hS := Mem.suf (M := []) HM
        refine drwp_take rfl (guard_none rfl) rfl rfl (fun w_ hS_ => (ex_not rfl rfl)) hS ?_
        refine drwp_done ?_
        refine at_then ?_
        refine run_cond (b := !t3573) rfl (fun hb3576 => ?_) (fun hb3576 => ?_)
        · replace ho3548 := cond_t hb3576 ho3548
          refine run_seq ?_
          refine run_region rfl ?_
          refine ops_ex rfl (guard_none rfl) rfl rfl (ex_assign rfl rfl) ?_
          refine ops_nil ?_
          refine at_then ?_
          refine run_ret ?_
          refine at_block_ret ?_
          refine at_then_ret ?_
          refine at_then_ret ?_
          refine at_block_ret ?_
          refine at_then_ret ?_
          have hR := Option.some.inj ho3548
          subst hR
          have hT := thn_inl H
          have hR := Option.some.inj hT
          subst hR
          exact at_ret1 rfl rfl ⟨_, rfl, rfl, HM⟩
        · replace ho3548 := cond_f hb3576 ho3548
          refine run_skip ?_
          refine at_block ?_
          refine at_then ?_
          refine run_region rfl ?_
          refine ops_ex rfl (guard_none rfl) rfl rfl (ex_move rfl rfl) ?_
          refine ops_ex rfl (guard_none rfl) rfl rfl (ex_add rfl rfl rfl) ?_
          refine ops_ex rfl (guard_none rfl) rfl rfl (ex_assign rfl rfl) ?_
          refine ops_nil ?_
          exact at_again k3566 (ρ1 := [(0, p0), (1, p1), (5, .int .i64 (wrap64 (a3557 + 1)))]) (Nat.lt_succ_self _) ⟨_, ho3548, rfl, HM⟩ (Sub.cons rfl (Sub.cons rfl (Sub.cons rfl Sub.nil)))
      · replace ho3548 := cond_f hb3568 ho3548
        refine run_exit ?_
        refine at_then_exit ?_
        refine at_then_exit ?_
        refine at_block_exit ?_
        exact at_mid (ρ' := []) ⟨(Option.some.inj ho3548), rfl, HM⟩ Sub.nil
    · rintro _ w3577 ⟨rfl, rfl, HM⟩
      replace H := (thn_inr H)
      refine run_seq ?_
      refine run_region rfl ?_
      refine ops_ex rfl (guard_none rfl) rfl rfl (ex_assign rfl rfl) ?_
      refine ops_nil ?_
      refine at_then ?_
      refine run_ret ?_
      have hR := Option.some.inj H
      subst hR
      exact at_ret1 rfl rfl ⟨_, rfl, rfl, HM⟩

def laws_eqInt64S.l0 (x0 : List Int) (x1 : List Int) : Nat → Int → Option (Bool ⊕ Unit)
  | 0, _ => none
  | k + 1, a3661 => (bif (decide (a3661 < (x0.length : Int))) then (chk (idxOk a3661 x0.length) (chk (idxOk a3661 x1.length) (bif ((gt x0 a3661) != (gt x1 a3661)) then some (.inl false) else laws_eqInt64S.l0 x0 x1 k (wrap64 (a3661 + 1))))) else some (.inr ()))
theorem laws_eqInt64S.l0_z (x0 : List Int) (x1 : List Int) (a3661 : Int) : laws_eqInt64S.l0 x0 x1 0 a3661 = none := rfl
theorem laws_eqInt64S.l0_s (x0 : List Int) (x1 : List Int) (k : Nat) (a3661 : Int) : laws_eqInt64S.l0 x0 x1 (k + 1) a3661 = (bif (decide (a3661 < (x0.length : Int))) then (chk (idxOk a3661 x0.length) (chk (idxOk a3661 x1.length) (bif ((gt x0 a3661) != (gt x1 a3661)) then some (.inl false) else laws_eqInt64S.l0 x0 x1 k (wrap64 (a3661 + 1))))) else some (.inr ())) := rfl
def laws_eqInt64S.f (k : Nat) (x0 : List Int) (x1 : List Int) : Option Bool := (bif ((x0.length : Int) != (x1.length : Int)) then some false else ((laws_eqInt64S.l0 x0 x1 k 0).bind fun o3653 => thn o3653 (fun r => some r) (fun _ => some true)))
theorem laws_eqInt64S.calls {k : Nat} {x0 : List Int} {x1 : List Int} {p0 : Value} {p1 : Value} {w : World} (hp0 : RdS kInt w p0 x0) (hp1 : RdS kInt w p1 x1) {r : Bool} (H : laws_eqInt64S.f k x0 x1 = some r) :
    Calls Tryd.prog 88 ([p0, p1] : List Value).toArray w (fun e w_ => ∃ v, e = .returned v ∧ v = (.bool r) ∧ Mem w [] w_ []) := by
  have HM := Mem.start w
  refine calls_run (N := 26) Tryd.func88 rfl rfl rfl rfl ?_
  unfold laws_eqInt64S.f at H
  refine run_seq ?_
  refine run_region rfl ?_
  refine ops_ex rfl (guard_none rfl) rfl rfl (ex_assign rfl rfl) ?_
  refine ops_nil ?_
  refine at_then ?_
  refine run_seq ?_
  refine run_seq ?_
  refine run_region rfl ?_
  refine ops_ex rfl (guard_none rfl) rfl rfl (ex_move rfl rfl) ?_
  refine ops_ex rfl (guard_none rfl) rfl rfl (ex_len (d := kInt) (xs := x0) rfl rfl Tryd.underlying38 hp0) ?_
  refine ops_ex rfl (guard_none rfl) rfl rfl (ex_move rfl rfl) ?_
  refine ops_ex rfl (guard_none rfl) rfl rfl (ex_len (d := kInt) (xs := x1) rfl rfl Tryd.underlying38 hp1) ?_
  refine ops_ex rfl (guard_none rfl) rfl rfl (ex_neq rfl rfl rfl) ?_
  refine ops_nil ?_
  refine at_then ?_
  refine run_cond (b := ((x0.length : Int) != (x1.length : Int))) rfl (fun hb3633 => ?_) (fun hb3633 => ?_)
  · replace H := cond_t hb3633 H
    refine run_seq ?_
    refine run_region rfl ?_
    refine ops_ex rfl (guard_none rfl) rfl rfl (ex_assign rfl rfl) ?_
    refine ops_nil ?_
    refine at_then ?_
    refine run_ret ?_
    refine at_then_ret ?_
    have hR := Option.some.inj H
    subst hR
    exact at_ret1 rfl rfl ⟨_, rfl, rfl, HM⟩
  · replace H := cond_f hb3633 H
    refine run_skip ?_
    refine at_then ?_
    obtain ⟨o3653, ho3654, H⟩ := bind_some H
    refine run_mid (fun ρ_ w_ => Sum.inr () = o3653 ∧ ρ_ = [] ∧ Mem w [] w_ []) ?_ ?_
    · skip
      refine run_seq ?_
      refine run_region rfl ?_
      refine ops_ex rfl (guard_none rfl) rfl rfl (ex_assign rfl rfl) ?_
      refine ops_nil ?_
      refine at_then ?_
      refine run_block ?_
      refine run_loop (fun k_ ρ_ w_ => ∃ a3661 : Int, laws_eqInt64S.l0 x0 x1 k_ a3661 = some o3653 ∧ ρ_ = [(0, p0), (1, p1), (5, .int .i64 a3661)] ∧ Mem w [] w_ []) k (ρ1 := [(0, p0), (1, p1), (5, .int .i64 0)]) ⟨_, ho3654, rfl, HM⟩ (Sub.cons rfl (Sub.cons rfl (Sub.cons rfl Sub.nil))) ?_
      clear HM ho3654
      rintro k3668 _ w3669 ⟨a3661, ho3654, rfl, HM⟩
      obtain _ | k3668 := k3668
      · exact nomatch ((laws_eqInt64S.l0_z x0 x1 a3661).symm.trans ho3654)
      replace ho3654 := (laws_eqInt64S.l0_s x0 x1 k3668 a3661).symm.trans ho3654
      refine run_seq ?_
      refine run_seq ?_
      refine run_region rfl ?_
      refine ops_ex rfl (guard_none rfl) rfl rfl (ex_move rfl rfl) ?_
      refine ops_ex rfl (guard_none rfl) rfl rfl (ex_move rfl rfl) ?_
      refine ops_ex rfl (guard_none rfl) rfl rfl (ex_len (d := kInt) (xs := x0) rfl rfl Tryd.underlying38 hp0) ?_
      refine ops_ex rfl (guard_none rfl) rfl rfl (ex_lss rfl rfl rfl) ?_
      refine ops_nil ?_
      refine at_then ?_
      refine run_cond (b := (decide (a3661 < (x0.length : Int)))) rfl (fun hb3670 => ?_) (fun hb3670 => ?_)
      · replace ho3654 := cond_t hb3670 ho3654
        refine run_skip ?_
        refine at_then ?_
        refine run_seq ?_
        refine run_block ?_
        refine run_seq ?_
        obtain ⟨e3671, ho3654⟩ := chk_some ho3654
        obtain ⟨e3673, ho3654⟩ := chk_some ho3654
        refine run_drawf (fun w_ => Mem w [] w_ []) [(0, true), (1, true), (2, true), (3, true), (4, true), (5, true), (6, true), (7, true), (8, true)] mixed rfl rfl (by kernel_rfl) ?_
        replace HM := HM.grow (fr_drew _)
        have hS := Mem.suf (M := []) HM
        refine drwp_take rfl (guard_none rfl) rfl rfl (fun w_ hS_ => (ex_move rfl rfl)) hS ?_
        refine drwp_take rfl (guard_none rfl) rfl rfl (fun w_ hS_ => (ex_move rfl rfl)) hS ?_
        have hc3672 : CellsAt _ (sb p0) (so p0 + (a3661).toNat * 1) [(.int .i64 (gt x0 a3661))] := rd_plain hp0 e3671
        refine drwp_take rfl (guard_none rfl) rfl rfl (fun w_ hS_ => (ex_indexAddr (d := kInt) rfl rfl rfl Tryd.underlying38 tsz2 hp0 (idx_lo e3671) (idx_hi e3671))) hS ?_
        refine drwp_take rfl (guard_none rfl) rfl rfl (fun w_ hS_ => (ex_load1 rfl rfl Tryd.underlying2 rfl ((hS_.at_ hc3672) 0 _ rfl))) hS ?_
        refine drwp_take rfl (guard_none rfl) rfl rfl (fun w_ hS_ => (ex_move rfl rfl)) hS ?_
        refine drwp_take rfl (guard_none rfl) rfl rfl (fun w_ hS_ => (ex_move rfl rfl)) hS ?_
        have hc3674 : CellsAt _ (sb p1) (so p1 + (a3661).toNat * 1) [(.int .i64 (gt x1 a3661))] := rd_plain hp1 e3673
        refine drwp_take rfl (guard_none rfl) rfl rfl (fun w_ hS_ => (ex_indexAddr (d := kInt) rfl rfl rfl Tryd.underlying38 tsz2 hp1 (idx_lo e3673) (idx_hi e3673))) hS ?_
        refine drwp_take rfl (guard_none rfl) rfl rfl (fun w_ hS_ => (ex_load1 rfl rfl Tryd.underlying2 rfl ((hS_.at_ hc3674) 0 _ rfl))) hS ?_
        refine drwp_take rfl (guard_none rfl) rfl rfl (fun w_ hS_ => (ex_neq rfl rfl rfl)) hS ?_
        refine drwp_done ?_
        refine at_then ?_
        refine run_cond (b := ((gt x0 a3661) != (gt x1 a3661))) rfl (fun hb3675 => ?_) (fun hb3675 => ?_)
        · replace ho3654 := cond_t hb3675 ho3654
          refine run_seq ?_
          refine run_region rfl ?_
          refine ops_ex rfl (guard_none rfl) rfl rfl (ex_assign rfl rfl) ?_
          refine ops_nil ?_
          refine at_then ?_
          refine run_ret ?_
          refine at_block_ret ?_
          refine at_then_ret ?_
          refine at_then_ret ?_
          refine at_block_ret ?_
          refine at_then_ret ?_
          have hR := Option.some.inj ho3654
          subst hR
          have hT := thn_inl H
          have hR := Option.some.inj hT
          subst hR
          exact at_ret1 rfl rfl ⟨_, rfl, rfl, HM⟩
        · replace ho3654 := cond_f hb3675 ho3654
          refine run_skip ?_
          refine at_block ?_
          refine at_then ?_
          refine run_region rfl ?_
          refine ops_ex rfl (guard_none rfl) rfl rfl (ex_move rfl rfl) ?_
          refine ops_ex rfl (guard_none rfl) rfl rfl (ex_add rfl rfl rfl) ?_
          refine ops_ex rfl (guard_none rfl) rfl rfl (ex_assign rfl rfl) ?_
          refine ops_nil ?_
          exact at_again k3668 (ρ1 := [(0, p0), (1, p1), (5, .int .i64 (wrap64 (a3661 + 1)))]) (Nat.lt_succ_self _) ⟨_, ho3654, rfl, HM⟩ (Sub.cons rfl (Sub.cons rfl (Sub.cons rfl Sub.nil)))
      · replace ho3654 := cond_f hb3670 ho3654
        refine run_exit ?_
        refine at_then_exit ?_
        refine at_then_exit ?_
        refine at_block_exit ?_
        exact at_mid (ρ' := []) ⟨(Option.some.inj ho3654), rfl, HM⟩ Sub.nil
    · rintro _ w3676 ⟨rfl, rfl, HM⟩
      replace H := (thn_inr H)
      refine run_seq ?_
      refine run_region rfl ?_
      refine ops_ex rfl (guard_none rfl) rfl rfl (ex_assign rfl rfl) ?_
      refine ops_nil ?_
      refine at_then ?_
      refine run_ret ?_
      have hR := Option.some.inj H
      subst hR
      exact at_ret1 rfl rfl ⟨_, rfl, rfl, HM⟩
end Go.Proofs.YtcpacdbdehphkaaDoor.Zk
