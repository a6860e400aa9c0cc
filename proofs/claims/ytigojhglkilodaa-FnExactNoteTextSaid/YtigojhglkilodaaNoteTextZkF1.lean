/- What functions of the program compute, each as a plain function, and that they do. Conditions: as each theorem states them. -/
import Derived.Test.YtigojhglkilodaaNoteTextZkF0
namespace Go.Proofs.Ytigojhglkilodaa.Zk
open Go Go.RowKit Go.IntWalk Go.Proofs
set_option linter.unusedVariables false
set_option linter.unusedSimpArgs false
set_option maxRecDepth 100000
set_option maxHeartbeats 4000000
def spec_l1Copy.f (k : Nat) (x0 : Ledger) : Option Ledger := (chk (leB ((([] : List ByteArray).length + x0.fTexts.length) * 16) 140737488355328) (chk (leB ((([] : List Sign).length + x0.fSigns.length) * 16) 140737488355328) (some (⟨([] : List ByteArray) ++ x0.fTexts, ([] : List Sign) ++ x0.fSigns⟩ : Ledger))))
theorem spec_l1Copy.calls {k : Nat} {x0 : Ledger} {p0_0 : Value} {p0_1 : Value} {w : World} (hp0_0 : RdS kStr w p0_0 x0.fTexts) (hp0_1 : RdS kSign w p0_1 x0.fSigns) {r : Ledger} (H : spec_l1Copy.f k x0 = some r) :
    Calls Try.prog 59 ([.agg #[p0_0, p0_1]] : List Value).toArray w (fun e w_ => ∃ v, e = .returned v ∧ ∃ u0 : Value, ∃ u1 : Value, v = (.agg #[u0, u1]) ∧ Mem w [] w_ [own kStr 9 u0 r.fTexts, own kSign 161 u1 r.fSigns]) := by
  have HM := Mem.start w
  refine calls_run (N := 12) Try.func59 rfl rfl rfl rfl ?_
  unfold spec_l1Copy.f at H
  refine run_seq ?_
  refine run_region rfl ?_
  refine ops_does rfl (guard_none rfl) rfl rfl (does_box (cs := [p0_0, p0_1]) rfl rfl rfl HM) ?_
  rintro _ w941 ⟨b935, rfl, HM⟩
  refine ops_does rfl (guard_none rfl) rfl rfl (does_alloc (cs := [.slice none 0 0, .slice none 0 0]) rfl tz29 rfl HM) ?_
  rintro _ w942 ⟨b938, rfl, HM⟩
  refine ops_nil ?_
  refine at_then ?_
  refine run_seq ?_
  obtain ⟨e946, H⟩ := chk_some H
  obtain ⟨e952, H⟩ := chk_some H
  refine run_meet (fun ρ_ w_ => ∃ v947 : Value, ∃ v953 : Value, ρ_ = [(2, .pointer (some ⟨b938, 0, none⟩))] ∧ Mem w [] w_ [box b938 29 [v947, v953], own kStr 9 v947 (([] : List ByteArray) ++ x0.fTexts), own kSign 161 v953 (([] : List Sign) ++ x0.fSigns)]) ?_ ?_
  · skip
    refine run_draw (fun w_ => Mem w [] w_ [box b935 29 [p0_0, p0_1]]) mixed rfl (l := #[false, false, false, false, false, false, false, false, false, false]) rfl ?_
    replace HM := HM.grow (fr_drew _)
    have hS := Mem.suf (M := [box b938 29 [.slice none 0 0, .slice none 0 0]]) HM
    refine drw_take (i := 1) (l' := #[false, true, false, false, false, false, false, false, false, false]) rfl (guard_none rfl) rfl rfl (by kernel_rfl) (fun w_ hS_ => (ex_fieldAddr (off' := 0) rfl rfl Try.underlying29 rfl tsz22 rfl)) hS ?_
    refine drw_take (i := 2) (l' := #[false, true, true, false, false, false, false, false, false, false]) rfl (guard_none rfl) rfl rfl (by kernel_rfl) (fun w_ hS_ => (ex_load1 rfl rfl Try.underlying22 rfl ((hS_.box_at 0 rfl) 0 _ rfl))) hS ?_
    refine drw_take (i := 5) (l' := #[false, true, true, false, false, true, false, false, false, false]) rfl (guard_none rfl) rfl rfl (by kernel_rfl) (fun w_ hS_ => (ex_fieldAddr (off' := 1) rfl rfl Try.underlying29 rfl tsz27 rfl)) hS ?_
    refine drw_take (i := 6) (l' := #[false, true, true, false, false, true, true, false, false, false]) rfl (guard_none rfl) rfl rfl (by kernel_rfl) (fun w_ hS_ => (ex_load1 rfl rfl Try.underlying27 rfl ((hS_.box_at 0 rfl) 1 _ rfl))) hS ?_
    refine drw_any [0, 4] (by kernel_rfl) rfl (.cons ?_ (.cons ?_ .nil))
    · skip
      refine br_does (l' := #[true, true, true, false, false, true, true, false, false, false]) rfl (guard_none rfl) rfl rfl (by kernel_rfl) (does_lit (e := 9) (cs := []) (xs := ([] : List ByteArray)) kStr rfl rfl (fun _ => by kernel_rfl) rfl rfl (fun _ _ h => by have h' : _ = [] := h; subst h'; exact .nil) HM.emp) ?_
      rintro v943 w955 HM
      refine ⟨Mem.suf (M := [own kStr 9 v943 ([] : List ByteArray), box b938 29 [.slice none 0 0, .slice none 0 0]]) HM, ?_⟩
      have hS := Mem.suf (M := [own kStr 9 v943 ([] : List ByteArray), box b938 29 [.slice none 0 0, .slice none 0 0]]) HM
      refine drw_any [3, 4] (by kernel_rfl) rfl (.cons ?_ (.cons ?_ .nil))
      · skip
        refine br_does (l' := #[true, true, true, true, false, true, true, false, false, false]) rfl (guard_none rfl) rfl rfl (by kernel_rfl) (does_appendR kStr flat_plain rfl rfl rfl Try.underlying22 tsz9 rfl tby9 tz9 rfl rfl (leB_le e946) (HM.rd hp0_0) HM) ?_
        rintro v947 w956 HM
        refine ⟨Mem.suf (M := [own kStr 9 v947 (([] : List ByteArray) ++ x0.fTexts), box b938 29 [.slice none 0 0, .slice none 0 0]]) HM, ?_⟩
        have hS := Mem.suf (M := [own kStr 9 v947 (([] : List ByteArray) ++ x0.fTexts), box b938 29 [.slice none 0 0, .slice none 0 0]]) HM
        refine drw_any [4] (by kernel_rfl) rfl (.cons ?_ .nil)
        refine br_does (l' := #[true, true, true, true, true, true, true, false, false, false]) rfl (guard_none rfl) rfl rfl (by kernel_rfl) (does_lit (e := 161) (cs := []) (xs := ([] : List Sign)) kSign rfl rfl (fun _ => by kernel_rfl) rfl rfl (fun _ _ h => by have h' : _ = [] := h; subst h'; exact .nil) HM.emp) ?_
        rintro v949 w957 HM
        refine ⟨Mem.suf (M := [own kSign 161 v949 ([] : List Sign), own kStr 9 v947 (([] : List ByteArray) ++ x0.fTexts), box b938 29 [.slice none 0 0, .slice none 0 0]]) HM, ?_⟩
        have hS := Mem.suf (M := [own kSign 161 v949 ([] : List Sign), own kStr 9 v947 (([] : List ByteArray) ++ x0.fTexts), box b938 29 [.slice none 0 0, .slice none 0 0]]) HM
        refine drw_any [7] (by kernel_rfl) rfl (.cons ?_ .nil)
        refine br_does (l' := #[true, true, true, true, true, true, true, true, false, false]) rfl (guard_none rfl) rfl rfl (by kernel_rfl) (does_appendR kSign flat_plain rfl rfl rfl Try.underlying27 tsz161 rfl tby161 tz161 rfl rfl (leB_le e952) (HM.rd hp0_1) HM) ?_
        rintro v953 w958 HM
        refine ⟨Mem.suf (M := [own kSign 161 v953 (([] : List Sign) ++ x0.fSigns), own kStr 9 v947 (([] : List ByteArray) ++ x0.fTexts), box b938 29 [.slice none 0 0, .slice none 0 0]]) HM, ?_⟩
        have hS := Mem.suf (M := [own kSign 161 v953 (([] : List Sign) ++ x0.fSigns), own kStr 9 v947 (([] : List ByteArray) ++ x0.fTexts), box b938 29 [.slice none 0 0, .slice none 0 0]]) HM
        refine drw_take (i := 8) (l' := #[true, true, true, true, true, true, true, true, true, false]) rfl (guard_none rfl) rfl rfl (by kernel_rfl) (fun w_ hS_ => (ex_build2 (fun v947 v953 => [(0, v947), (1, v953)]) (fun v947 v953 => #[v947, v953]) rfl rfl (fun _ _ _ _ _ _ => by kernel_rfl) (HM.own_rd 1 rfl).isSl (HM.own_rd 0 rfl).isSl)) hS ?_
        replace HM := HM.front 2 rfl rfl
        refine drw_any [9] (by kernel_rfl) rfl (.cons ?_ .nil)
        refine br_doesS (l' := #[true, true, true, true, true, true, true, true, true, true]) rfl (guard_none rfl) rfl (by kernel_rfl) (does_store (vs := [v947, v953]) (cs' := [v947, v953]) rfl rfl rfl rfl tsz29 (Ones.rd (HM.own_rd 2 rfl) (Ones.rd (HM.own_rd 1 rfl) Ones.nil)) rfl rfl HM) ?_
        rintro w959 HM
        refine ⟨Mem.suf (M := [box b938 29 [v947, v953], own kSign 161 v953 (([] : List Sign) ++ x0.fSigns), own kStr 9 v947 (([] : List ByteArray) ++ x0.fTexts)]) HM, ?_⟩
        have hS := Mem.suf (M := [box b938 29 [v947, v953], own kSign 161 v953 (([] : List Sign) ++ x0.fSigns), own kStr 9 v947 (([] : List ByteArray) ++ x0.fTexts)]) HM
        refine drw_done (by kernel_rfl) ?_
        replace HM := (HM.front 3 rfl rfl).drop
        replace HM := HM.front 1 rfl rfl
        replace HM := HM.front 2 rfl rfl
        replace HM := HM.front 2 rfl rfl
        exact at_meet [(2, .pointer (some ⟨b938, 0, none⟩))] ⟨_, _, rfl, HM⟩ (Sub.cons rfl Sub.nil)
      · skip
        refine br_does (l' := #[true, true, true, false, true, true, true, false, false, false]) rfl (guard_none rfl) rfl rfl (by kernel_rfl) (does_lit (e := 161) (cs := []) (xs := ([] : List Sign)) kSign rfl rfl (fun _ => by kernel_rfl) rfl rfl (fun _ _ h => by have h' : _ = [] := h; subst h'; exact .nil) HM.emp) ?_
        rintro v949 w960 HM
        refine ⟨Mem.suf (M := [own kSign 161 v949 ([] : List Sign), own kStr 9 v943 ([] : List ByteArray), box b938 29 [.slice none 0 0, .slice none 0 0]]) HM, ?_⟩
        have hS := Mem.suf (M := [own kSign 161 v949 ([] : List Sign), own kStr 9 v943 ([] : List ByteArray), box b938 29 [.slice none 0 0, .slice none 0 0]]) HM
        replace HM := HM.front 1 rfl rfl
        refine drw_any [3] (by kernel_rfl) rfl (.cons ?_ .nil)
        refine br_does (l' := #[true, true, true, true, true, true, true, false, false, false]) rfl (guard_none rfl) rfl rfl (by kernel_rfl) (does_appendR kStr flat_plain rfl rfl rfl Try.underlying22 tsz9 rfl tby9 tz9 rfl rfl (leB_le e946) (HM.rd hp0_0) HM) ?_
        rintro v947 w961 HM
        refine ⟨Mem.suf (M := [own kStr 9 v947 (([] : List ByteArray) ++ x0.fTexts), own kSign 161 v949 ([] : List Sign), box b938 29 [.slice none 0 0, .slice none 0 0]]) HM, ?_⟩
        have hS := Mem.suf (M := [own kStr 9 v947 (([] : List ByteArray) ++ x0.fTexts), own kSign 161 v949 ([] : List Sign), box b938 29 [.slice none 0 0, .slice none 0 0]]) HM
        replace HM := HM.front 1 rfl rfl
        refine drw_any [7] (by kernel_rfl) rfl (.cons ?_ .nil)
        refine br_does (l' := #[true, true, true, true, true, true, true, true, false, false]) rfl (guard_none rfl) rfl rfl (by kernel_rfl) (does_appendR kSign flat_plain rfl rfl rfl Try.underlying27 tsz161 rfl tby161 tz161 rfl rfl (leB_le e952) (HM.rd hp0_1) HM) ?_
        rintro v953 w962 HM
        refine ⟨Mem.suf (M := [own kSign 161 v953 (([] : List Sign) ++ x0.fSigns), own kStr 9 v947 (([] : List ByteArray) ++ x0.fTexts), box b938 29 [.slice none 0 0, .slice none 0 0]]) HM, ?_⟩
        have hS := Mem.suf (M := [own kSign 161 v953 (([] : List Sign) ++ x0.fSigns), own kStr 9 v947 (([] : List ByteArray) ++ x0.fTexts), box b938 29 [.slice none 0 0, .slice none 0 0]]) HM
        refine drw_take (i := 8) (l' := #[true, true, true, true, true, true, true, true, true, false]) rfl (guard_none rfl) rfl rfl (by kernel_rfl) (fun w_ hS_ => (ex_build2 (fun v947 v953 => [(0, v947), (1, v953)]) (fun v947 v953 => #[v947, v953]) rfl rfl (fun _ _ _ _ _ _ => by kernel_rfl) (HM.own_rd 1 rfl).isSl (HM.own_rd 0 rfl).isSl)) hS ?_
        replace HM := HM.front 2 rfl rfl
        refine drw_any [9] (by kernel_rfl) rfl (.cons ?_ .nil)
        refine br_doesS (l' := #[true, true, true, true, true, true, true, true, true, true]) rfl (guard_none rfl) rfl (by kernel_rfl) (does_store (vs := [v947, v953]) (cs' := [v947, v953]) rfl rfl rfl rfl tsz29 (Ones.rd (HM.own_rd 2 rfl) (Ones.rd (HM.own_rd 1 rfl) Ones.nil)) rfl rfl HM) ?_
        rintro w963 HM
        refine ⟨Mem.suf (M := [box b938 29 [v947, v953], own kSign 161 v953 (([] : List Sign) ++ x0.fSigns), own kStr 9 v947 (([] : List ByteArray) ++ x0.fTexts)]) HM, ?_⟩
        have hS := Mem.suf (M := [box b938 29 [v947, v953], own kSign 161 v953 (([] : List Sign) ++ x0.fSigns), own kStr 9 v947 (([] : List ByteArray) ++ x0.fTexts)]) HM
        refine drw_done (by kernel_rfl) ?_
        replace HM := (HM.front 3 rfl rfl).drop
        replace HM := HM.front 1 rfl rfl
        replace HM := HM.front 2 rfl rfl
        replace HM := HM.front 2 rfl rfl
        exact at_meet [(2, .pointer (some ⟨b938, 0, none⟩))] ⟨_, _, rfl, HM⟩ (Sub.cons rfl Sub.nil)
    · skip
      refine br_does (l' := #[false, true, true, false, true, true, true, false, false, false]) rfl (guard_none rfl) rfl rfl (by kernel_rfl) (does_lit (e := 161) (cs := []) (xs := ([] : List Sign)) kSign rfl rfl (fun _ => by kernel_rfl) rfl rfl (fun _ _ h => by have h' : _ = [] := h; subst h'; exact .nil) HM.emp) ?_
      rintro v949 w964 HM
      refine ⟨Mem.suf (M := [own kSign 161 v949 ([] : List Sign), box b938 29 [.slice none 0 0, .slice none 0 0]]) HM, ?_⟩
      have hS := Mem.suf (M := [own kSign 161 v949 ([] : List Sign), box b938 29 [.slice none 0 0, .slice none 0 0]]) HM
      refine drw_any [0] (by kernel_rfl) rfl (.cons ?_ .nil)
      refine br_does (l' := #[true, true, true, false, true, true, true, false, false, false]) rfl (guard_none rfl) rfl rfl (by kernel_rfl) (does_lit (e := 9) (cs := []) (xs := ([] : List ByteArray)) kStr rfl rfl (fun _ => by kernel_rfl) rfl rfl (fun _ _ h => by have h' : _ = [] := h; subst h'; exact .nil) HM.emp) ?_
      rintro v943 w965 HM
      refine ⟨Mem.suf (M := [own kStr 9 v943 ([] : List ByteArray), own kSign 161 v949 ([] : List Sign), box b938 29 [.slice none 0 0, .slice none 0 0]]) HM, ?_⟩
      have hS := Mem.suf (M := [own kStr 9 v943 ([] : List ByteArray), own kSign 161 v949 ([] : List Sign), box b938 29 [.slice none 0 0, .slice none 0 0]]) HM
      refine drw_any [3] (by kernel_rfl) rfl (.cons ?_ .nil)
      refine br_does (l' := #[true, true, true, true, true, true, true, false, false, false]) rfl (guard_none rfl) rfl rfl (by kernel_rfl) (does_appendR kStr flat_plain rfl rfl rfl Try.underlying22 tsz9 rfl tby9 tz9 rfl rfl (leB_le e946) (HM.rd hp0_0) HM) ?_
      rintro v947 w966 HM
      refine ⟨Mem.suf (M := [own kStr 9 v947 (([] : List ByteArray) ++ x0.fTexts), own kSign 161 v949 ([] : List Sign), box b938 29 [.slice none 0 0, .slice none 0 0]]) HM, ?_⟩
      have hS := Mem.suf (M := [own kStr 9 v947 (([] : List ByteArray) ++ x0.fTexts), own kSign 161 v949 ([] : List Sign), box b938 29 [.slice none 0 0, .slice none 0 0]]) HM
      replace HM := HM.front 1 rfl rfl
      refine drw_any [7] (by kernel_rfl) rfl (.cons ?_ .nil)
      refine br_does (l' := #[true, true, true, true, true, true, true, true, false, false]) rfl (guard_none rfl) rfl rfl (by kernel_rfl) (does_appendR kSign flat_plain rfl rfl rfl Try.underlying27 tsz161 rfl tby161 tz161 rfl rfl (leB_le e952) (HM.rd hp0_1) HM) ?_
      rintro v953 w967 HM
      refine ⟨Mem.suf (M := [own kSign 161 v953 (([] : List Sign) ++ x0.fSigns), own kStr 9 v947 (([] : List ByteArray) ++ x0.fTexts), box b938 29 [.slice none 0 0, .slice none 0 0]]) HM, ?_⟩
      have hS := Mem.suf (M := [own kSign 161 v953 (([] : List Sign) ++ x0.fSigns), own kStr 9 v947 (([] : List ByteArray) ++ x0.fTexts), box b938 29 [.slice none 0 0, .slice none 0 0]]) HM
      refine drw_take (i := 8) (l' := #[true, true, true, true, true, true, true, true, true, false]) rfl (guard_none rfl) rfl rfl (by kernel_rfl) (fun w_ hS_ => (ex_build2 (fun v947 v953 => [(0, v947), (1, v953)]) (fun v947 v953 => #[v947, v953]) rfl rfl (fun _ _ _ _ _ _ => by kernel_rfl) (HM.own_rd 1 rfl).isSl (HM.own_rd 0 rfl).isSl)) hS ?_
      replace HM := HM.front 2 rfl rfl
      refine drw_any [9] (by kernel_rfl) rfl (.cons ?_ .nil)
      refine br_doesS (l' := #[true, true, true, true, true, true, true, true, true, true]) rfl (guard_none rfl) rfl (by kernel_rfl) (does_store (vs := [v947, v953]) (cs' := [v947, v953]) rfl rfl rfl rfl tsz29 (Ones.rd (HM.own_rd 2 rfl) (Ones.rd (HM.own_rd 1 rfl) Ones.nil)) rfl rfl HM) ?_
      rintro w968 HM
      refine ⟨Mem.suf (M := [box b938 29 [v947, v953], own kSign 161 v953 (([] : List Sign) ++ x0.fSigns), own kStr 9 v947 (([] : List ByteArray) ++ x0.fTexts)]) HM, ?_⟩
      have hS := Mem.suf (M := [box b938 29 [v947, v953], own kSign 161 v953 (([] : List Sign) ++ x0.fSigns), own kStr 9 v947 (([] : List ByteArray) ++ x0.fTexts)]) HM
      refine drw_done (by kernel_rfl) ?_
      replace HM := (HM.front 3 rfl rfl).drop
      replace HM := HM.front 1 rfl rfl
      replace HM := HM.front 2 rfl rfl
      replace HM := HM.front 2 rfl rfl
      exact at_meet [(2, .pointer (some ⟨b938, 0, none⟩))] ⟨_, _, rfl, HM⟩ (Sub.cons rfl Sub.nil)
  · rintro _ w969 ⟨v947, v953, rfl, HM⟩
    refine at_then ?_
    refine run_ret ?_
    have hcb0 := HM.box_at 0 rfl
    replace HM := (HM.front 0 rfl rfl).drop
    have hR := Option.some.inj H
    subst hR
    exact at_retN rfl rfl Try.underlying29 rfl tsz29 rfl hcb0 ⟨_, rfl, _, _, rfl, HM⟩

def spec_NoteText.f (k : Nat) (x0 : Ledger) (x1 : ByteArray) : Option LedgerResult := ((spec_l1Fault.f k x0).bind fun t1004 => (bif (t1004 != 0) then some (⟨t1004, 0, (⟨([] : List ByteArray), ([] : List Sign)⟩ : Ledger)⟩ : LedgerResult) else (bif ((decide ((x1.size : Int) < 1)) || (decide (300 < (x1.size : Int)))) then some (⟨2, 0, (⟨([] : List ByteArray), ([] : List Sign)⟩ : Ledger)⟩ : LedgerResult) else ((spec_l1Copy.f k x0).bind fun t1019 => ((spec_l1At.f k x0.fTexts x1).bind fun t1034 => (bif (decide (0 < t1034)) then some (⟨0, t1034, t1019⟩ : LedgerResult) else (bif (decide (60 ≤ (x0.fTexts.length : Int))) then some (⟨2, 0, (⟨([] : List ByteArray), ([] : List Sign)⟩ : Ledger)⟩ : LedgerResult) else (chk (leB ((t1019.fTexts.length + ([x1] : List ByteArray).length) * 16) 140737488355328) (some (⟨0, ((t1019.fTexts ++ ([x1] : List ByteArray)).length : Int), (⟨t1019.fTexts ++ ([x1] : List ByteArray), t1019.fSigns⟩ : Ledger)⟩ : LedgerResult))))))))))
theorem spec_NoteText.calls {k : Nat} {x0 : Ledger} {x1 : ByteArray} {p0_0 : Value} {p0_1 : Value} {w : World} (hp0_0 : RdS kStr w p0_0 x0.fTexts) (hp0_1 : RdS kSign w p0_1 x0.fSigns) {r : LedgerResult} (H : spec_NoteText.f k x0 x1 = some r) :
    Calls Try.prog 10 ([.agg #[p0_0, p0_1], .string x1] : List Value).toArray w (fun e w_ => ∃ v, e = .returned v ∧ ∃ u0 : Value, ∃ u1 : Value, v = (.agg #[.int .i64 r.fCode, .int .i64 r.fId, u0, u1]) ∧ Mem w [] w_ [own kStr 9 u0 r.fLedger.fTexts, own kSign 161 u1 r.fLedger.fSigns]) := by
  have HM := Mem.start w
  refine calls_run (N := 49) Try.func10 rfl rfl rfl rfl ?_
  unfold spec_NoteText.f at H
  refine run_seq ?_
  refine run_region rfl ?_
  refine ops_does rfl (guard_none rfl) rfl rfl (does_box (cs := [p0_0, p0_1]) rfl rfl rfl HM) ?_
  rintro _ w999 ⟨b993, rfl, HM⟩
  refine ops_does rfl (guard_none rfl) rfl rfl (does_alloc (cs := [.int .i64 0, .int .i64 0, .slice none 0 0, .slice none 0 0]) rfl tz31 rfl HM) ?_
  rintro _ w1000 ⟨b996, rfl, HM⟩
  refine ops_nil ?_
  refine at_then ?_
  refine run_seq ?_
  refine run_seq ?_
  obtain ⟨t1004, h1005, H⟩ := bind_some H
  refine run_region rfl ?_
  refine ops_does rfl (guard_none rfl) rfl rfl (does_callk rfl callok58 rfl (spec_l1Fault.calls (x0 := x0) (HM.box_at 1 rfl) (HM.rd hp0_0) (HM.rd hp0_1) h1005)) ?_
  rintro _ w1006 ⟨rfl, hn⟩
  replace HM : Mem w [] w1006 [box b996 31 [.int .i64 0, .int .i64 0, .slice none 0 0, .slice none 0 0], box b993 29 [p0_0, p0_1]] := HM.call hn
  refine ops_ex rfl (guard_none rfl) rfl rfl (ex_assign rfl rfl) ?_
  refine ops_nil ?_
  refine at_then ?_
  refine run_seq ?_
  refine run_region rfl ?_
  refine ops_ex rfl (guard_none rfl) rfl rfl (ex_move rfl rfl) ?_
  refine ops_ex rfl (guard_none rfl) rfl rfl (ex_neq rfl rfl rfl) ?_
  refine ops_nil ?_
  refine at_then ?_
  refine run_cond (b := (t1004 != 0)) rfl (fun hb1007 => ?_) (fun hb1007 => ?_)
  · replace H := cond_t hb1007 H
    refine run_seq ?_
    refine run_region rfl ?_
    refine ops_ex rfl (guard_none rfl) rfl rfl (ex_move rfl rfl) ?_
    refine ops_ex rfl (guard_none rfl) rfl rfl (ex_build (cells := #[(.int .i64 t1004), (.int .i64 0), (.slice none 0 0), (.slice none 0 0)]) rfl rfl (by kernel_rfl)) ?_
    refine ops_doesS rfl (guard_none rfl) rfl (does_store (vs := [.int .i64 t1004, .int .i64 0, .slice none 0 0, .slice none 0 0]) (cs' := [.int .i64 t1004, .int .i64 0, .slice none 0 0, .slice none 0 0]) rfl rfl rfl rfl tsz31 (Ones.int (Ones.int (Ones.sl (Ones.sl Ones.nil)))) rfl rfl HM) ?_
    rintro w1008 HM
    refine ops_nil ?_
    refine at_then ?_
    refine run_ret ?_
    refine at_then_ret ?_
    replace HM := HM.empty kStr 9 none
    replace HM := HM.empty kSign 161 none
    replace HM := (HM.front 3 rfl rfl).drop
    replace HM := HM.front 1 rfl rfl
    replace HM := HM.front 2 rfl rfl
    have hcb0 := HM.box_at 0 rfl
    replace HM := (HM.front 0 rfl rfl).drop
    have hR := Option.some.inj H
    subst hR
    exact at_retN rfl rfl Try.underlying31 rfl tsz31 rfl hcb0 ⟨_, rfl, _, _, rfl, HM⟩
  · replace H := cond_f hb1007 H
    refine run_skip ?_
    refine at_then ?_
    refine run_seq ?_
    refine run_seq ?_
    refine run_meet (fun ρ_ w_ => ρ_ = [(1, .string x1), (2, .pointer (some ⟨b993, 0, none⟩)), (4, .pointer (some ⟨b996, 0, none⟩)), (20, .bool ((decide ((x1.size : Int) < 1)) || (decide (300 < (x1.size : Int)))))] ∧ Mem w [] w_ [box b993 29 [p0_0, p0_1], box b996 31 [.int .i64 0, .int .i64 0, .slice none 0 0, .slice none 0 0]]) ?_ ?_
    · skip
      refine run_region rfl ?_
      refine ops_ex rfl (guard_none rfl) rfl rfl (ex_move rfl rfl) ?_
      refine ops_ex rfl (guard_none rfl) rfl rfl (ex_strlen rfl rfl Try.underlying9) ?_
      refine ops_ex rfl (guard_none rfl) rfl rfl (ex_lss rfl rfl rfl) ?_
      refine ops_ex rfl (guard_none rfl) rfl rfl (ex_move rfl rfl) ?_
      refine bool_cases (decide ((x1.size : Int) < 1)) (fun hg1012 => ?_) (fun hg1012 => ?_)
      · skip
        refine ops_off rfl (guard_off rfl rfl rfl hg1012) rfl rfl ?_
        refine ops_off rfl (guard_off rfl rfl rfl hg1012) rfl rfl ?_
        refine ops_off rfl (guard_off rfl rfl rfl hg1012) rfl rfl ?_
        have hg1013 : ((decide ((x1.size : Int) < 1)) || (decide (300 < (x1.size : Int)))) = true := by simp only [hg1012, Bool.and_true, Bool.true_and, Bool.and_false, Bool.false_and, Bool.or_true, Bool.true_or, Bool.or_false, Bool.false_or, Bool.not_true, Bool.not_false, Bool.not_not]
        refine ops_ex (v := .bool ((decide ((x1.size : Int) < 1)) || (decide (300 < (x1.size : Int))))) rfl (guard_none rfl) rfl rfl (ex_por_t rfl rfl hg1012) ?_
        refine ops_nil ?_
        replace HM := HM.front 1 rfl rfl
        exact at_meet [(1, .string x1), (2, .pointer (some ⟨b993, 0, none⟩)), (4, .pointer (some ⟨b996, 0, none⟩)), (20, .bool ((decide ((x1.size : Int) < 1)) || (decide (300 < (x1.size : Int)))))] ⟨rfl, HM⟩ (Sub.cons rfl (Sub.cons rfl (Sub.cons rfl (Sub.cons rfl Sub.nil))))
      · skip
        refine ops_ex rfl (guard_on rfl rfl rfl hg1012) rfl rfl (ex_move rfl rfl) ?_
        refine ops_ex rfl (guard_on rfl rfl rfl hg1012) rfl rfl (ex_strlen rfl rfl Try.underlying9) ?_
        refine ops_ex rfl (guard_on rfl rfl rfl hg1012) rfl rfl (ex_gtr rfl rfl rfl) ?_
        refine ops_ex (v := .bool ((decide ((x1.size : Int) < 1)) || (decide (300 < (x1.size : Int))))) rfl (guard_none rfl) rfl rfl (ex_por_f rfl rfl hg1012 rfl) ?_
        refine ops_nil ?_
        replace HM := HM.front 1 rfl rfl
        exact at_meet [(1, .string x1), (2, .pointer (some ⟨b993, 0, none⟩)), (4, .pointer (some ⟨b996, 0, none⟩)), (20, .bool ((decide ((x1.size : Int) < 1)) || (decide (300 < (x1.size : Int)))))] ⟨rfl, HM⟩ (Sub.cons rfl (Sub.cons rfl (Sub.cons rfl (Sub.cons rfl Sub.nil))))
    · rintro _ w1014 ⟨rfl, HM⟩
      refine at_then ?_
      refine run_cond (b := ((decide ((x1.size : Int) < 1)) || (decide (300 < (x1.size : Int))))) rfl (fun hb1015 => ?_) (fun hb1015 => ?_)
      · replace H := cond_t hb1015 H
        refine run_seq ?_
        refine run_region rfl ?_
        refine ops_ex rfl (guard_none rfl) rfl rfl (ex_build (cells := #[(.int .i64 2), (.int .i64 0), (.slice none 0 0), (.slice none 0 0)]) rfl rfl (by kernel_rfl)) ?_
        replace HM := HM.front 1 rfl rfl
        refine ops_doesS rfl (guard_none rfl) rfl (does_store (vs := [.int .i64 2, .int .i64 0, .slice none 0 0, .slice none 0 0]) (cs' := [.int .i64 2, .int .i64 0, .slice none 0 0, .slice none 0 0]) rfl rfl rfl rfl tsz31 (Ones.int (Ones.int (Ones.sl (Ones.sl Ones.nil)))) rfl rfl HM) ?_
        rintro w1016 HM
        refine ops_nil ?_
        refine at_then ?_
        refine run_ret ?_
        refine at_then_ret ?_
        replace HM := HM.empty kStr 9 none
        replace HM := HM.empty kSign 161 none
        replace HM := (HM.front 3 rfl rfl).drop
        replace HM := HM.front 1 rfl rfl
        replace HM := HM.front 2 rfl rfl
        have hcb0 := HM.box_at 0 rfl
        replace HM := (HM.front 0 rfl rfl).drop
        have hR := Option.some.inj H
        subst hR
        exact at_retN rfl rfl Try.underlying31 rfl tsz31 rfl hcb0 ⟨_, rfl, _, _, rfl, HM⟩
      · replace H := cond_f hb1015 H
        refine run_skip ?_
        refine at_then ?_
        refine run_seq ?_
        obtain ⟨t1019, h1020, H⟩ := bind_some H
        refine run_region rfl ?_
        refine ops_ex rfl (guard_none rfl) rfl rfl (ex_loadN (cs := [p0_0, p0_1]) rfl rfl Try.underlying29 rfl tsz29 rfl ((HM.box_at 0 rfl).sub 0 2 rfl)) ?_
        refine ops_does rfl (guard_none rfl) rfl rfl (does_callk rfl callok59 rfl (spec_l1Copy.calls (x0 := x0) (HM.rd hp0_0) (HM.rd hp0_1) h1020)) ?_
        rintro _ w1028 ⟨u1021, u1023, rfl, hn⟩
        replace HM : Mem w [] w1028 [own kStr 9 u1021 t1019.fTexts, own kSign 161 u1023 t1019.fSigns, box b993 29 [p0_0, p0_1], box b996 31 [.int .i64 0, .int .i64 0, .slice none 0 0, .slice none 0 0]] := HM.call hn
        refine ops_does rfl (guard_none rfl) rfl rfl (does_alloc (cs := [.slice none 0 0, .slice none 0 0]) rfl tz29 rfl HM) ?_
        rintro _ w1029 ⟨b1025, rfl, HM⟩
        refine ops_doesS rfl (guard_none rfl) rfl (does_store (vs := [u1021, u1023]) (cs' := [u1021, u1023]) rfl rfl rfl rfl tsz29 (Ones.rd (HM.own_rd 1 rfl) (Ones.rd (HM.own_rd 2 rfl) Ones.nil)) rfl rfl HM) ?_
        rintro w1030 HM
        refine ops_nil ?_
        refine at_then ?_
        refine run_seq ?_
        refine run_seq ?_
        obtain ⟨t1034, h1035, H⟩ := bind_some H
        refine run_region rfl ?_
        refine ops_ex rfl (guard_none rfl) rfl rfl (ex_fieldAddr (off' := 0) rfl rfl Try.underlying29 rfl tsz22 rfl) ?_
        refine ops_ex rfl (guard_none rfl) rfl rfl (ex_load1 rfl rfl Try.underlying22 rfl ((HM.box_at 3 rfl) 0 _ rfl)) ?_
        refine ops_ex rfl (guard_none rfl) rfl rfl (ex_move rfl rfl) ?_
        refine ops_does rfl (guard_none rfl) rfl rfl (does_callk rfl callok60 rfl (spec_l1At.calls (x0 := x0.fTexts) (x1 := x1) (HM.rd hp0_0) h1035)) ?_
        rintro _ w1036 ⟨rfl, hn⟩
        replace HM : Mem w [] w1036 [box b1025 29 [u1021, u1023], own kStr 9 u1021 t1019.fTexts, own kSign 161 u1023 t1019.fSigns, box b993 29 [p0_0, p0_1], box b996 31 [.int .i64 0, .int .i64 0, .slice none 0 0, .slice none 0 0]] := HM.call hn
        refine ops_ex rfl (guard_none rfl) rfl rfl (ex_assign rfl rfl) ?_
        refine ops_nil ?_
        refine at_then ?_
        refine run_seq ?_
        refine run_region rfl ?_
        refine ops_ex rfl (guard_none rfl) rfl rfl (ex_move rfl rfl) ?_
        refine ops_ex rfl (guard_none rfl) rfl rfl (ex_gtr rfl rfl rfl) ?_
        refine ops_nil ?_
        refine at_then ?_
        refine run_cond (b := (decide (0 < t1034))) rfl (fun hb1037 => ?_) (fun hb1037 => ?_)
        · replace H := cond_t hb1037 H
          refine run_seq ?_
          refine run_region rfl ?_
          refine ops_ex rfl (guard_none rfl) rfl rfl (ex_move rfl rfl) ?_
          refine ops_ex rfl (guard_none rfl) rfl rfl (ex_loadN (cs := [u1021, u1023]) rfl rfl Try.underlying29 rfl tsz29 rfl ((HM.box_at 0 rfl).sub 0 2 rfl)) ?_
          refine ops_ex rfl (guard_none rfl) rfl rfl (ex_build2 (fun u1021 u1023 => [(1, .int .i64 t1034), (2, .agg #[u1021, u1023])]) (fun u1021 u1023 => #[.int .i64 0, .int .i64 t1034, u1021, u1023]) rfl rfl (fun _ _ _ _ _ _ => by kernel_rfl) (HM.own_rd 1 rfl).isSl (HM.own_rd 2 rfl).isSl) ?_
          replace HM := HM.front 4 rfl rfl
          refine ops_doesS rfl (guard_none rfl) rfl (does_store (vs := [.int .i64 0, .int .i64 t1034, u1021, u1023]) (cs' := [.int .i64 0, .int .i64 t1034, u1021, u1023]) rfl rfl rfl rfl tsz31 (Ones.int (Ones.int (Ones.rd (HM.own_rd 2 rfl) (Ones.rd (HM.own_rd 3 rfl) Ones.nil)))) rfl rfl HM) ?_
          rintro w1038 HM
          refine ops_nil ?_
          refine at_then ?_
          refine run_ret ?_
          refine at_then_ret ?_
          replace HM := (HM.front 1 rfl rfl).drop
          replace HM := (HM.front 3 rfl rfl).drop
          have hcb0 := HM.box_at 0 rfl
          replace HM := (HM.front 0 rfl rfl).drop
          have hR := Option.some.inj H
          subst hR
          exact at_retN rfl rfl Try.underlying31 rfl tsz31 rfl hcb0 ⟨_, rfl, _, _, rfl, HM⟩
        · replace H := cond_f hb1037 H
          refine run_skip ?_
          refine at_then ?_
          refine run_seq ?_
          refine run_seq ?_
          refine run_region rfl ?_
          refine ops_ex rfl (guard_none rfl) rfl rfl (ex_fieldAddr (off' := 0) rfl rfl Try.underlying29 rfl tsz22 rfl) ?_
          refine ops_ex rfl (guard_none rfl) rfl rfl (ex_load1 rfl rfl Try.underlying22 rfl ((HM.box_at 3 rfl) 0 _ rfl)) ?_
          refine ops_ex rfl (guard_none rfl) rfl rfl (ex_len (d := kStr) (xs := x0.fTexts) rfl rfl Try.underlying22 hp0_0) ?_
          refine ops_ex rfl (guard_none rfl) rfl rfl (ex_geq rfl rfl rfl) ?_
          refine ops_nil ?_
          refine at_then ?_
          refine run_cond (b := (decide (60 ≤ (x0.fTexts.length : Int)))) rfl (fun hb1040 => ?_) (fun hb1040 => ?_)
          · replace H := cond_t hb1040 H
            refine run_seq ?_
            refine run_region rfl ?_
            refine ops_ex rfl (guard_none rfl) rfl rfl (ex_build (cells := #[(.int .i64 2), (.int .i64 0), (.slice none 0 0), (.slice none 0 0)]) rfl rfl (by kernel_rfl)) ?_
            replace HM := HM.front 4 rfl rfl
            refine ops_doesS rfl (guard_none rfl) rfl (does_store (vs := [.int .i64 2, .int .i64 0, .slice none 0 0, .slice none 0 0]) (cs' := [.int .i64 2, .int .i64 0, .slice none 0 0, .slice none 0 0]) rfl rfl rfl rfl tsz31 (Ones.int (Ones.int (Ones.sl (Ones.sl Ones.nil)))) rfl rfl HM) ?_
            rintro w1041 HM
            refine ops_nil ?_
            refine at_then ?_
            refine run_ret ?_
            refine at_then_ret ?_
            replace HM := HM.empty kStr 9 none
            replace HM := HM.empty kSign 161 none
            replace HM := (HM.front 3 rfl rfl).drop
            replace HM := (HM.front 3 rfl rfl).drop
            replace HM := (HM.front 3 rfl rfl).drop
            replace HM := (HM.front 3 rfl rfl).drop
            replace HM := HM.front 1 rfl rfl
            replace HM := HM.front 2 rfl rfl
            have hcb0 := HM.box_at 0 rfl
            replace HM := (HM.front 0 rfl rfl).drop
            have hR := Option.some.inj H
            subst hR
            exact at_retN rfl rfl Try.underlying31 rfl tsz31 rfl hcb0 ⟨_, rfl, _, _, rfl, HM⟩
          · replace H := cond_f hb1040 H
            refine run_skip ?_
            refine at_then ?_
            refine run_seq ?_
            obtain ⟨e1047, H⟩ := chk_some H
            refine run_region rfl ?_
            refine ops_ex rfl (guard_none rfl) rfl rfl (ex_fieldAddr (off' := 0) rfl rfl Try.underlying29 rfl tsz22 rfl) ?_
            refine ops_ex rfl (guard_none rfl) rfl rfl (ex_load1 rfl rfl Try.underlying22 rfl ((HM.box_at 0 rfl) 0 _ rfl)) ?_
            refine ops_ex rfl (guard_none rfl) rfl rfl (ex_move rfl rfl) ?_
            refine ops_does rfl (guard_none rfl) rfl rfl (does_lit (e := 9) (cs := [.string x1]) (xs := ([x1] : List ByteArray)) kStr rfl rfl (fun _ => by kernel_rfl) rfl rfl (fun _ _ h => by have h' : _ = [] := h; subst h'; exact (Elems.cons (d := kStr) (f := []) ⟨rfl, rfl⟩ .nil)) HM.emp) ?_
            rintro v1044 w1050 HM
            replace HM := HM.front 2 rfl rfl
            refine ops_does rfl (guard_none rfl) rfl rfl (does_appendR kStr flat_plain rfl rfl rfl Try.underlying22 tsz9 rfl tby9 tz9 rfl rfl (leB_le e1047) (HM.own_rd 1 rfl) HM) ?_
            rintro v1048 w1051 HM
            refine ops_ex rfl (guard_none rfl) rfl rfl (ex_fieldAddr (off' := 0) rfl rfl Try.underlying29 rfl tsz22 rfl) ?_
            replace HM := HM.front 2 rfl rfl
            refine ops_doesS rfl (guard_none rfl) rfl (does_store (vs := [v1048]) (cs' := [v1048, u1023]) rfl rfl rfl (rd_cells (HM.own_rd 1 rfl)) tsz22 (Ones.rd (HM.own_rd 1 rfl) Ones.nil) rfl rfl HM) ?_
            rintro w1052 HM
            refine ops_nil ?_
            refine at_then ?_
            refine run_seq ?_
            refine run_region rfl ?_
            refine ops_ex rfl (guard_none rfl) rfl rfl (ex_fieldAddr (off' := 0) rfl rfl Try.underlying29 rfl tsz22 rfl) ?_
            refine ops_ex rfl (guard_none rfl) rfl rfl (ex_load1 rfl rfl Try.underlying22 rfl ((HM.box_at 0 rfl) 0 _ rfl)) ?_
            refine ops_ex rfl (guard_none rfl) rfl rfl (ex_len (d := kStr) (xs := t1019.fTexts ++ ([x1] : List ByteArray)) rfl rfl Try.underlying22 (HM.own_rd 1 rfl)) ?_
            refine ops_ex rfl (guard_none rfl) rfl rfl (ex_loadN (cs := [v1048, u1023]) rfl rfl Try.underlying29 rfl tsz29 rfl ((HM.box_at 0 rfl).sub 0 2 rfl)) ?_
            refine ops_ex rfl (guard_none rfl) rfl rfl (ex_build2 (fun v1048 u1023 => [(1, .int .i64 ((t1019.fTexts ++ ([x1] : List ByteArray)).length : Int)), (2, .agg #[v1048, u1023])]) (fun v1048 u1023 => #[.int .i64 0, .int .i64 ((t1019.fTexts ++ ([x1] : List ByteArray)).length : Int), v1048, u1023]) rfl rfl (fun _ _ _ _ _ _ => by kernel_rfl) (HM.own_rd 1 rfl).isSl (HM.own_rd 3 rfl).isSl) ?_
            replace HM := HM.front 5 rfl rfl
            refine ops_doesS rfl (guard_none rfl) rfl (does_store (vs := [.int .i64 0, .int .i64 ((t1019.fTexts ++ ([x1] : List ByteArray)).length : Int), v1048, u1023]) (cs' := [.int .i64 0, .int .i64 ((t1019.fTexts ++ ([x1] : List ByteArray)).length : Int), v1048, u1023]) rfl rfl rfl rfl tsz31 (Ones.int (Ones.int (Ones.rd (HM.own_rd 2 rfl) (Ones.rd (HM.own_rd 4 rfl) Ones.nil)))) rfl rfl HM) ?_
            rintro w1053 HM
            refine ops_nil ?_
            refine at_then ?_
            refine run_ret ?_
            replace HM := (HM.front 1 rfl rfl).drop
            replace HM := (HM.front 2 rfl rfl).drop
            replace HM := (HM.front 3 rfl rfl).drop
            have hcb0 := HM.box_at 0 rfl
            replace HM := (HM.front 0 rfl rfl).drop
            have hR := Option.some.inj H
            subst hR
            exact at_retN rfl rfl Try.underlying31 rfl tsz31 rfl hcb0 ⟨_, rfl, _, _, rfl, HM⟩

def impl_within.f (k : Nat) (x0 : Int) (x1 : Int) (x2 : Int) : Option Bool := some ((decide (x1 ≤ x0)) && (decide (x0 ≤ x2)))
theorem impl_within.calls {k : Nat} {x0 : Int} {x1 : Int} {x2 : Int}  {w : World}  {r : Bool} (H : impl_within.f k x0 x1 x2 = some r) :
    Calls Try.prog 112 ([.int .i64 x0, .int .i64 x1, .int .i64 x2] : List Value).toArray w (fun e w_ => ∃ v, e = .returned v ∧ v = (.bool r) ∧ Mem w [] w_ []) := by
  have HM := Mem.start w
  refine calls_run (N := 15) Try.func112 rfl rfl rfl rfl ?_
  unfold impl_within.f at H
  refine run_seq ?_
  refine run_region rfl ?_
  refine ops_ex rfl (guard_none rfl) rfl rfl (ex_assign rfl rfl) ?_
  refine ops_nil ?_
  refine at_then ?_
  refine run_seq ?_
  refine run_meet (fun ρ_ w_ => ρ_ = [(6, .bool ((decide (x1 ≤ x0)) && (decide (x0 ≤ x2))))] ∧ Mem w [] w_ []) ?_ ?_
  · skip
    refine run_region rfl ?_
    refine ops_ex rfl (guard_none rfl) rfl rfl (ex_move rfl rfl) ?_
    refine ops_ex rfl (guard_none rfl) rfl rfl (ex_move rfl rfl) ?_
    refine ops_ex rfl (guard_none rfl) rfl rfl (ex_geq rfl rfl rfl) ?_
    refine ops_ex rfl (guard_none rfl) rfl rfl (ex_move rfl rfl) ?_
    refine bool_cases (decide (x1 ≤ x0)) (fun hg1086 => ?_) (fun hg1086 => ?_)
    · skip
      refine ops_ex rfl (guard_on rfl rfl rfl hg1086) rfl rfl (ex_move rfl rfl) ?_
      refine ops_ex rfl (guard_on rfl rfl rfl hg1086) rfl rfl (ex_move rfl rfl) ?_
      refine ops_ex rfl (guard_on rfl rfl rfl hg1086) rfl rfl (ex_leq rfl rfl rfl) ?_
      refine ops_ex (v := .bool ((decide (x1 ≤ x0)) && (decide (x0 ≤ x2)))) rfl (guard_none rfl) rfl rfl (ex_pand_t rfl rfl hg1086 rfl) ?_
      refine ops_ex rfl (guard_none rfl) rfl rfl (ex_assign rfl rfl) ?_
      refine ops_nil ?_
      exact at_meet [(6, .bool ((decide (x1 ≤ x0)) && (decide (x0 ≤ x2))))] ⟨rfl, HM⟩ (Sub.cons rfl Sub.nil)
    · skip
      refine ops_off rfl (guard_off rfl rfl rfl hg1086) rfl rfl ?_
      refine ops_off rfl (guard_off rfl rfl rfl hg1086) rfl rfl ?_
      refine ops_off rfl (guard_off rfl rfl rfl hg1086) rfl rfl ?_
      have hg1087 : ((decide (x1 ≤ x0)) && (decide (x0 ≤ x2))) = false := by simp only [hg1086, Bool.and_true, Bool.true_and, Bool.and_false, Bool.false_and, Bool.or_true, Bool.true_or, Bool.or_false, Bool.false_or, Bool.not_true, Bool.not_false, Bool.not_not]
      refine ops_ex (v := .bool ((decide (x1 ≤ x0)) && (decide (x0 ≤ x2)))) rfl (guard_none rfl) rfl rfl (ex_pand_f rfl rfl hg1086) ?_
      refine ops_ex rfl (guard_none rfl) rfl rfl (ex_assign rfl rfl) ?_
      refine ops_nil ?_
      exact at_meet [(6, .bool ((decide (x1 ≤ x0)) && (decide (x0 ≤ x2))))] ⟨rfl, HM⟩ (Sub.cons rfl Sub.nil)
  · rintro _ w1088 ⟨rfl, HM⟩
    refine at_then ?_
    refine run_ret ?_
    have hR := Option.some.inj H
    subst hR
    exact at_ret1 rfl rfl ⟨_, rfl, rfl, HM⟩

def impl_isText.f (k : Nat) (x0 : ByteArray) : Option Bool := ((impl_within.f k (x0.size : Int) 1 300).bind fun t1091 => some t1091)
theorem impl_isText.calls {k : Nat} {x0 : ByteArray}  {w : World}  {r : Bool} (H : impl_isText.f k x0 = some r) :
    Calls Try.prog 66 ([.string x0] : List Value).toArray w (fun e w_ => ∃ v, e = .returned v ∧ v = (.bool r) ∧ Mem w [] w_ []) := by
  have HM := Mem.start w
  refine calls_run (N := 6) Try.func66 rfl rfl rfl rfl ?_
  unfold impl_isText.f at H
  refine run_seq ?_
  refine run_region rfl ?_
  refine ops_ex rfl (guard_none rfl) rfl rfl (ex_assign rfl rfl) ?_
  refine ops_nil ?_
  refine at_then ?_
  refine run_seq ?_
  obtain ⟨t1091, h1092, H⟩ := bind_some H
  refine run_region rfl ?_
  refine ops_ex rfl (guard_none rfl) rfl rfl (ex_move rfl rfl) ?_
  refine ops_ex rfl (guard_none rfl) rfl rfl (ex_strlen rfl rfl Try.underlying9) ?_
  refine ops_does rfl (guard_none rfl) rfl rfl (does_callk rfl callok112 rfl (impl_within.calls (x0 := (x0.size : Int)) (x1 := 1) (x2 := 300) h1092)) ?_
  rintro _ w1093 ⟨rfl, hn⟩
  replace HM : Mem w [] w1093 [] := HM.call hn
  refine ops_ex rfl (guard_none rfl) rfl rfl (ex_assign rfl rfl) ?_
  refine ops_nil ?_
  refine at_then ?_
  refine run_ret ?_
  have hR := Option.some.inj H
  subst hR
  exact at_ret1 rfl rfl ⟨_, rfl, rfl, HM⟩

def slices_Index_string.l0 (x0 : List ByteArray) (x1 : ByteArray) : Nat → Int → Option (Int ⊕ Unit)
  | 0, _ => none
  | k + 1, a1138 => (bif (decide (a1138 < (x0.length : Int))) then (chk (idxOk a1138 x0.length) (bif (sEq x1 (gt x0 a1138)) then some (.inl a1138) else slices_Index_string.l0 x0 x1 k (wrap64 (a1138 + 1)))) else some (.inr ()))
theorem slices_Index_string.l0_z (x0 : List ByteArray) (x1 : ByteArray) (a1138 : Int) : slices_Index_string.l0 x0 x1 0 a1138 = none := rfl
theorem slices_Index_string.l0_s (x0 : List ByteArray) (x1 : ByteArray) (k : Nat) (a1138 : Int) : slices_Index_string.l0 x0 x1 (k + 1) a1138 = (bif (decide (a1138 < (x0.length : Int))) then (chk (idxOk a1138 x0.length) (bif (sEq x1 (gt x0 a1138)) then some (.inl a1138) else slices_Index_string.l0 x0 x1 k (wrap64 (a1138 + 1)))) else some (.inr ())) := rfl
def slices_Index_string.f (k : Nat) (x0 : List ByteArray) (x1 : ByteArray) : Option Int := ((slices_Index_string.l0 x0 x1 k 0).bind fun o1132 => thn o1132 (fun r => some r) (fun _ => some (-1)))
theorem slices_Index_string.calls {k : Nat} {x0 : List ByteArray} {x1 : ByteArray} {p0 : Value} {w : World} (hp0 : RdS kStr w p0 x0) {r : Int} (H : slices_Index_string.f k x0 x1 = some r) :
    Calls Try.prog 114 ([p0, .string x1] : List Value).toArray w (fun e w_ => ∃ v, e = .returned v ∧ v = (.int .i64 r) ∧ Mem w [] w_ []) := by
  have HM := Mem.start w
  refine calls_run (N := 19) Try.func114 rfl rfl rfl rfl ?_
  unfold slices_Index_string.f at H
  refine run_seq ?_
  refine run_region rfl ?_
  refine ops_ex rfl (guard_none rfl) rfl rfl (ex_assign rfl rfl) ?_
  refine ops_nil ?_
  refine at_then ?_
  obtain ⟨o1132, ho1133, H⟩ := bind_some H
  refine run_mid (fun ρ_ w_ => Sum.inr () = o1132 ∧ ρ_ = [] ∧ Mem w [] w_ []) ?_ ?_
  · skip
    refine run_seq ?_
    refine run_region rfl ?_
    refine ops_ex rfl (guard_none rfl) rfl rfl (ex_move rfl rfl) ?_
    refine ops_ex rfl (guard_none rfl) rfl rfl (ex_len (d := kStr) (xs := x0) rfl rfl Try.underlying22 hp0) ?_
    refine ops_ex rfl (guard_none rfl) rfl rfl (ex_move rfl rfl) ?_
    refine ops_nil ?_
    refine at_then ?_
    refine run_block ?_
    refine run_loop (fun k_ ρ_ w_ => ∃ a1138 : Int, slices_Index_string.l0 x0 x1 k_ a1138 = some o1132 ∧ ρ_ = [(0, p0), (1, .string x1), (7, .int .i64 (x0.length : Int)), (8, .int .i64 a1138)] ∧ Mem w [] w_ []) k (ρ1 := [(0, p0), (1, .string x1), (7, .int .i64 (x0.length : Int)), (8, .int .i64 0)]) ⟨_, ho1133, rfl, HM⟩ (Sub.cons rfl (Sub.cons rfl (Sub.cons rfl (Sub.cons rfl Sub.nil)))) ?_
    clear HM ho1133
    rintro k1143 _ w1144 ⟨a1138, ho1133, rfl, HM⟩
    obtain _ | k1143 := k1143
    · exact nomatch ((slices_Index_string.l0_z x0 x1 a1138).symm.trans ho1133)
    replace ho1133 := (slices_Index_string.l0_s x0 x1 k1143 a1138).symm.trans ho1133
    refine run_seq ?_
    refine run_region rfl ?_
    refine ops_ex rfl (guard_none rfl) rfl rfl (ex_lss rfl rfl rfl) ?_
    refine ops_nil ?_
    refine at_then ?_
    refine run_seq ?_
    refine run_cond (b := (decide (a1138 < (x0.length : Int)))) rfl (fun hb1145 => ?_) (fun hb1145 => ?_)
    · replace ho1133 := cond_t hb1145 ho1133
      refine run_skip ?_
      refine at_then ?_
      refine run_seq ?_
      refine run_block ?_
      refine run_seq ?_
      refine run_region rfl ?_
      refine ops_ex rfl (guard_none rfl) rfl rfl (ex_move rfl rfl) ?_
      refine ops_ex rfl (guard_none rfl) rfl rfl (ex_assign rfl rfl) ?_
      refine ops_nil ?_
      refine at_then ?_
      refine run_seq ?_
      obtain ⟨e1146, ho1133⟩ := chk_some ho1133
      refine run_region rfl ?_
      refine ops_ex rfl (guard_none rfl) rfl rfl (ex_move rfl rfl) ?_
      refine ops_ex rfl (guard_none rfl) rfl rfl (ex_move rfl rfl) ?_
      refine ops_ex rfl (guard_none rfl) rfl rfl (ex_move rfl rfl) ?_
      have hc1147 : CellsAt _ (sb p0) (so p0 + (a1138).toNat * 1) [(.string (gt x0 a1138))] := rd_plain hp0 e1146
      refine ops_ex rfl (guard_none rfl) rfl rfl (ex_indexAddr (d := kStr) rfl rfl rfl Try.underlying22 tsz9 hp0 (idx_lo e1146) (idx_hi e1146)) ?_
      refine ops_ex rfl (guard_none rfl) rfl rfl (ex_load1 rfl rfl Try.underlying9 rfl ((HM.at_ hc1147) 0 _ rfl)) ?_
      refine ops_ex rfl (guard_none rfl) rfl rfl (ex_seql rfl rfl rfl) ?_
      refine ops_nil ?_
      refine at_then ?_
      refine run_cond (b := (sEq x1 (gt x0 a1138))) rfl (fun hb1148 => ?_) (fun hb1148 => ?_)
      · replace ho1133 := cond_t hb1148 ho1133
        refine run_seq ?_
        refine run_region rfl ?_
        refine ops_ex rfl (guard_none rfl) rfl rfl (ex_move rfl rfl) ?_
        refine ops_ex rfl (guard_none rfl) rfl rfl (ex_assign rfl rfl) ?_
        refine ops_nil ?_
        refine at_then ?_
        refine run_ret ?_
        refine at_block_ret ?_
        refine at_then_ret ?_
        refine at_then_ret ?_
        refine at_block_ret ?_
        refine at_then_ret ?_
        have hR := Option.some.inj ho1133
        subst hR
        have hT := thn_inl H
        have hR := Option.some.inj hT
        subst hR
        exact at_ret1 rfl rfl ⟨_, rfl, rfl, HM⟩
      · replace ho1133 := cond_f hb1148 ho1133
        refine run_skip ?_
        refine at_block ?_
        refine at_then ?_
        refine run_region rfl ?_
        refine ops_ex rfl (guard_none rfl) rfl rfl (ex_add rfl rfl rfl) ?_
        refine ops_ex rfl (guard_none rfl) rfl rfl (ex_move rfl rfl) ?_
        refine ops_nil ?_
        exact at_again k1143 (ρ1 := [(0, p0), (1, .string x1), (7, .int .i64 (x0.length : Int)), (8, .int .i64 (wrap64 (a1138 + 1)))]) (Nat.lt_succ_self _) ⟨_, ho1133, rfl, HM⟩ (Sub.cons rfl (Sub.cons rfl (Sub.cons rfl (Sub.cons rfl Sub.nil))))
    · replace ho1133 := cond_f hb1145 ho1133
      refine run_exit ?_
      refine at_then_exit ?_
      refine at_then_exit ?_
      refine at_block_exit ?_
      exact at_mid (ρ' := []) ⟨(Option.some.inj ho1133), rfl, HM⟩ Sub.nil
  · rintro _ w1149 ⟨rfl, rfl, HM⟩
    replace H := (thn_inr H)
    refine run_seq ?_
    refine run_region rfl ?_
    refine ops_ex rfl (guard_none rfl) rfl rfl (ex_assign rfl rfl) ?_
    refine ops_nil ?_
    refine at_then ?_
    refine run_ret ?_
    have hR := Option.some.inj H
    subst hR
    exact at_ret1 rfl rfl ⟨_, rfl, rfl, HM⟩

def slices_Contains_string.f (k : Nat) (x0 : List ByteArray) (x1 : ByteArray) : Option Bool := ((slices_Index_string.f k x0 x1).bind fun t1152 => some (decide (0 ≤ t1152)))
theorem slices_Contains_string.calls {k : Nat} {x0 : List ByteArray} {x1 : ByteArray} {p0 : Value} {w : World} (hp0 : RdS kStr w p0 x0) {r : Bool} (H : slices_Contains_string.f k x0 x1 = some r) :
    Calls Try.prog 110 ([p0, .string x1] : List Value).toArray w (fun e w_ => ∃ v, e = .returned v ∧ v = (.bool r) ∧ Mem w [] w_ []) := by
  have HM := Mem.start w
  refine calls_run (N := 9) Try.func110 rfl rfl rfl rfl ?_
  unfold slices_Contains_string.f at H
  refine run_seq ?_
  refine run_region rfl ?_
  refine ops_ex rfl (guard_none rfl) rfl rfl (ex_assign rfl rfl) ?_
  refine ops_nil ?_
  refine at_then ?_
  refine run_seq ?_
  obtain ⟨t1152, h1153, H⟩ := bind_some H
  refine run_region rfl ?_
  refine ops_ex rfl (guard_none rfl) rfl rfl (ex_move rfl rfl) ?_
  refine ops_ex rfl (guard_none rfl) rfl rfl (ex_move rfl rfl) ?_
  refine ops_does rfl (guard_none rfl) rfl rfl (does_callk rfl callok114 rfl (slices_Index_string.calls (x0 := x0) (x1 := x1) (HM.rd hp0) h1153)) ?_
  rintro _ w1154 ⟨rfl, hn⟩
  replace HM : Mem w [] w1154 [] := HM.call hn
  refine ops_ex rfl (guard_none rfl) rfl rfl (ex_geq rfl rfl rfl) ?_
  refine ops_ex rfl (guard_none rfl) rfl rfl (ex_assign rfl rfl) ?_
  refine ops_nil ?_
  refine at_then ?_
  refine run_ret ?_
  have hR := Option.some.inj H
  subst hR
  exact at_ret1 rfl rfl ⟨_, rfl, rfl, HM⟩

def impl_isKey.f (k : Nat) (x0 : Int) : Option Bool := ((impl_within.f k x0 1 999).bind fun t1201 => some t1201)
theorem impl_isKey.calls {k : Nat} {x0 : Int}  {w : World}  {r : Bool} (H : impl_isKey.f k x0 = some r) :
    Calls Try.prog 111 ([.int .i64 x0] : List Value).toArray w (fun e w_ => ∃ v, e = .returned v ∧ v = (.bool r) ∧ Mem w [] w_ []) := by
  have HM := Mem.start w
  refine calls_run (N := 5) Try.func111 rfl rfl rfl rfl ?_
  unfold impl_isKey.f at H
  refine run_seq ?_
  refine run_region rfl ?_
  refine ops_ex rfl (guard_none rfl) rfl rfl (ex_assign rfl rfl) ?_
  refine ops_nil ?_
  refine at_then ?_
  refine run_seq ?_
  obtain ⟨t1201, h1202, H⟩ := bind_some H
  refine run_region rfl ?_
  refine ops_ex rfl (guard_none rfl) rfl rfl (ex_move rfl rfl) ?_
  refine ops_does rfl (guard_none rfl) rfl rfl (does_callk rfl callok112 rfl (impl_within.calls (x0 := x0) (x1 := 1) (x2 := 999) h1202)) ?_
  rintro _ w1203 ⟨rfl, hn⟩
  replace HM : Mem w [] w1203 [] := HM.call hn
  refine ops_ex rfl (guard_none rfl) rfl rfl (ex_assign rfl rfl) ?_
  refine ops_nil ?_
  refine at_then ?_
  refine run_ret ?_
  have hR := Option.some.inj H
  subst hR
  exact at_ret1 rfl rfl ⟨_, rfl, rfl, HM⟩

def slices_Index_impl_Sign.l0 (x0 : List Sign) (x1 : Sign) : Nat → Int → Option (Int ⊕ Unit)
  | 0, _ => none
  | k + 1, a1262 => (bif (decide (a1262 < (x0.length : Int))) then (chk (idxOk a1262 x0.length) (bif ((x1.fKey == ((gt x0 a1262).fKey)) && (x1.fId == ((gt x0 a1262).fId))) then some (.inl a1262) else slices_Index_impl_Sign.l0 x0 x1 k (wrap64 (a1262 + 1)))) else some (.inr ()))
theorem slices_Index_impl_Sign.l0_z (x0 : List Sign) (x1 : Sign) (a1262 : Int) : slices_Index_impl_Sign.l0 x0 x1 0 a1262 = none := rfl
theorem slices_Index_impl_Sign.l0_s (x0 : List Sign) (x1 : Sign) (k : Nat) (a1262 : Int) : slices_Index_impl_Sign.l0 x0 x1 (k + 1) a1262 = (bif (decide (a1262 < (x0.length : Int))) then (chk (idxOk a1262 x0.length) (bif ((x1.fKey == ((gt x0 a1262).fKey)) && (x1.fId == ((gt x0 a1262).fId))) then some (.inl a1262) else slices_Index_impl_Sign.l0 x0 x1 k (wrap64 (a1262 + 1)))) else some (.inr ())) := rfl
def slices_Index_impl_Sign.f (k : Nat) (x0 : List Sign) (x1 : Sign) : Option Int := ((slices_Index_impl_Sign.l0 x0 x1 k 0).bind fun o1256 => thn o1256 (fun r => some r) (fun _ => some (-1)))
theorem slices_Index_impl_Sign.calls {k : Nat} {x0 : List Sign} {x1 : Sign} {p0 : Value} {w : World} (hp0 : RdS kSign w p0 x0) {r : Int} (H : slices_Index_impl_Sign.f k x0 x1 = some r) :
    Calls Try.prog 158 ([p0, .agg #[(.int .i64 x1.fKey), (.int .i64 x1.fId)]] : List Value).toArray w (fun e w_ => ∃ v, e = .returned v ∧ v = (.int .i64 r) ∧ Mem w [] w_ []) := by
  have HM := Mem.start w
  refine calls_run (N := 19) Try.func158 rfl rfl rfl rfl ?_
  unfold slices_Index_impl_Sign.f at H
  refine run_seq ?_
  refine run_region rfl ?_
  refine ops_does rfl (guard_none rfl) rfl rfl (does_box (cs := [.int .i64 x1.fKey, .int .i64 x1.fId]) rfl rfl rfl HM) ?_
  rintro _ w1242 ⟨b1239, rfl, HM⟩
  refine ops_ex rfl (guard_none rfl) rfl rfl (ex_assign rfl rfl) ?_
  refine ops_nil ?_
  refine at_then ?_
  obtain ⟨o1256, ho1257, H⟩ := bind_some H
  refine run_mid (fun ρ_ w_ => Sum.inr () = o1256 ∧ ρ_ = [] ∧ Mem w [] w_ []) ?_ ?_
  · skip
    refine run_seq ?_
    refine run_region rfl ?_
    refine ops_ex rfl (guard_none rfl) rfl rfl (ex_move rfl rfl) ?_
    refine ops_ex rfl (guard_none rfl) rfl rfl (ex_len (d := kSign) (xs := x0) rfl rfl Try.underlying27 hp0) ?_
    refine ops_ex rfl (guard_none rfl) rfl rfl (ex_move rfl rfl) ?_
    refine ops_nil ?_
    refine at_then ?_
    refine run_block ?_
    refine run_loop (fun k_ ρ_ w_ => ∃ a1262 : Int, slices_Index_impl_Sign.l0 x0 x1 k_ a1262 = some o1256 ∧ ρ_ = [(0, p0), (3, .pointer (some ⟨b1239, 0, none⟩)), (7, .int .i64 (x0.length : Int)), (8, .int .i64 a1262)] ∧ Mem w [] w_ [box b1239 161 [.int .i64 x1.fKey, .int .i64 x1.fId]]) k (ρ1 := [(0, p0), (3, .pointer (some ⟨b1239, 0, none⟩)), (7, .int .i64 (x0.length : Int)), (8, .int .i64 0)]) ⟨_, ho1257, rfl, HM⟩ (Sub.cons rfl (Sub.cons rfl (Sub.cons rfl (Sub.cons rfl Sub.nil)))) ?_
    clear HM ho1257
    rintro k1267 _ w1268 ⟨a1262, ho1257, rfl, HM⟩
    obtain _ | k1267 := k1267
    · exact nomatch ((slices_Index_impl_Sign.l0_z x0 x1 a1262).symm.trans ho1257)
    replace ho1257 := (slices_Index_impl_Sign.l0_s x0 x1 k1267 a1262).symm.trans ho1257
    refine run_seq ?_
    refine run_region rfl ?_
    refine ops_ex rfl (guard_none rfl) rfl rfl (ex_lss rfl rfl rfl) ?_
    refine ops_nil ?_
    refine at_then ?_
    refine run_seq ?_
    refine run_cond (b := (decide (a1262 < (x0.length : Int)))) rfl (fun hb1269 => ?_) (fun hb1269 => ?_)
    · replace ho1257 := cond_t hb1269 ho1257
      refine run_skip ?_
      refine at_then ?_
      refine run_seq ?_
      refine run_block ?_
      refine run_seq ?_
      refine run_region rfl ?_
      refine ops_ex rfl (guard_none rfl) rfl rfl (ex_move rfl rfl) ?_
      refine ops_ex rfl (guard_none rfl) rfl rfl (ex_assign rfl rfl) ?_
      refine ops_nil ?_
      refine at_then ?_
      refine run_seq ?_
      obtain ⟨e1270, ho1257⟩ := chk_some ho1257
      refine run_drawf (fun w_ => Mem w [] w_ [box b1239 161 [.int .i64 x1.fKey, .int .i64 x1.fId]]) [(0, true), (1, true), (2, true), (3, true), (4, true), (5, true)] mixed rfl rfl (by kernel_rfl) ?_
      replace HM := HM.grow (fr_drew _)
      have hS := Mem.suf (M := []) HM
      refine drwp_take rfl (guard_none rfl) rfl rfl (fun w_ hS_ => (ex_loadN (cs := [(.int .i64 x1.fKey), (.int .i64 x1.fId)]) rfl rfl Try.underlying161 rfl tsz161 rfl ((hS_.box_at 0 rfl).sub 0 2 rfl))) hS ?_
      refine drwp_take rfl (guard_none rfl) rfl rfl (fun w_ hS_ => (ex_move rfl rfl)) hS ?_
      refine drwp_take rfl (guard_none rfl) rfl rfl (fun w_ hS_ => (ex_move rfl rfl)) hS ?_
      have hc1271 : CellsAt _ (sb p0) (so p0 + (a1262).toNat * 2) [(.int .i64 ((gt x0 a1262).fKey)), (.int .i64 ((gt x0 a1262).fId))] := rd_plain hp0 e1270
      refine drwp_take rfl (guard_none rfl) rfl rfl (fun w_ hS_ => (ex_indexAddr (d := kSign) rfl rfl rfl Try.underlying27 tsz161 hp0 (idx_lo e1270) (idx_hi e1270))) hS ?_
      refine drwp_take rfl (guard_none rfl) rfl rfl (fun w_ hS_ => (ex_loadN (cs := [(.int .i64 ((gt x0 a1262).fKey)), (.int .i64 ((gt x0 a1262).fId))]) rfl rfl Try.underlying161 rfl tsz161 rfl ((hS_.at_ hc1271).sub 0 2 rfl))) hS ?_
      refine drwp_take rfl (guard_none rfl) rfl rfl (fun w_ hS_ => (ex_aeql rfl rfl rfl (by kernel_rfl) (eqs161 _ _ _ _ _))) hS ?_
      refine drwp_done ?_
      refine at_then ?_
      refine run_cond (b := ((x1.fKey == ((gt x0 a1262).fKey)) && (x1.fId == ((gt x0 a1262).fId)))) rfl (fun hb1272 => ?_) (fun hb1272 => ?_)
      · replace ho1257 := cond_t hb1272 ho1257
        refine run_seq ?_
        refine run_region rfl ?_
        refine ops_ex rfl (guard_none rfl) rfl rfl (ex_move rfl rfl) ?_
        refine ops_ex rfl (guard_none rfl) rfl rfl (ex_assign rfl rfl) ?_
        refine ops_nil ?_
        refine at_then ?_
        refine run_ret ?_
        refine at_block_ret ?_
        refine at_then_ret ?_
        refine at_then_ret ?_
        refine at_block_ret ?_
        refine at_then_ret ?_
        replace HM := (HM.front 0 rfl rfl).drop
        have hR := Option.some.inj ho1257
        subst hR
        have hT := thn_inl H
        have hR := Option.some.inj hT
        subst hR
        exact at_ret1 rfl rfl ⟨_, rfl, rfl, HM⟩
      · replace ho1257 := cond_f hb1272 ho1257
        refine run_skip ?_
        refine at_block ?_
        refine at_then ?_
        refine run_region rfl ?_
        refine ops_ex rfl (guard_none rfl) rfl rfl (ex_add rfl rfl rfl) ?_
        refine ops_ex rfl (guard_none rfl) rfl rfl (ex_move rfl rfl) ?_
        refine ops_nil ?_
        exact at_again k1267 (ρ1 := [(0, p0), (3, .pointer (some ⟨b1239, 0, none⟩)), (7, .int .i64 (x0.length : Int)), (8, .int .i64 (wrap64 (a1262 + 1)))]) (Nat.lt_succ_self _) ⟨_, ho1257, rfl, HM⟩ (Sub.cons rfl (Sub.cons rfl (Sub.cons rfl (Sub.cons rfl Sub.nil))))
    · replace ho1257 := cond_f hb1269 ho1257
      refine run_exit ?_
      refine at_then_exit ?_
      refine at_then_exit ?_
      refine at_block_exit ?_
      replace HM := (HM.front 0 rfl rfl).drop
      exact at_mid (ρ' := []) ⟨(Option.some.inj ho1257), rfl, HM⟩ Sub.nil
  · rintro _ w1273 ⟨rfl, rfl, HM⟩
    replace H := (thn_inr H)
    refine run_seq ?_
    refine run_region rfl ?_
    refine ops_ex rfl (guard_none rfl) rfl rfl (ex_assign rfl rfl) ?_
    refine ops_nil ?_
    refine at_then ?_
    refine run_ret ?_
    have hR := Option.some.inj H
    subst hR
    exact at_ret1 rfl rfl ⟨_, rfl, rfl, HM⟩

def slices_Contains_impl_Sign.f (k : Nat) (x0 : List Sign) (x1 : Sign) : Option Bool := ((slices_Index_impl_Sign.f k x0 x1).bind fun t1280 => some (decide (0 ≤ t1280)))
theorem slices_Contains_impl_Sign.calls {k : Nat} {x0 : List Sign} {x1 : Sign} {p0 : Value} {w : World} (hp0 : RdS kSign w p0 x0) {r : Bool} (H : slices_Contains_impl_Sign.f k x0 x1 = some r) :
    Calls Try.prog 113 ([p0, .agg #[(.int .i64 x1.fKey), (.int .i64 x1.fId)]] : List Value).toArray w (fun e w_ => ∃ v, e = .returned v ∧ v = (.bool r) ∧ Mem w [] w_ []) := by
  have HM := Mem.start w
  refine calls_run (N := 9) Try.func113 rfl rfl rfl rfl ?_
  unfold slices_Contains_impl_Sign.f at H
  refine run_seq ?_
  refine run_region rfl ?_
  refine ops_does rfl (guard_none rfl) rfl rfl (does_box (cs := [.int .i64 x1.fKey, .int .i64 x1.fId]) rfl rfl rfl HM) ?_
  rintro _ w1279 ⟨b1276, rfl, HM⟩
  refine ops_ex rfl (guard_none rfl) rfl rfl (ex_assign rfl rfl) ?_
  refine ops_nil ?_
  refine at_then ?_
  refine run_seq ?_
  obtain ⟨t1280, h1281, H⟩ := bind_some H
  refine run_region rfl ?_
  refine ops_ex rfl (guard_none rfl) rfl rfl (ex_move rfl rfl) ?_
  refine ops_ex rfl (guard_none rfl) rfl rfl (ex_loadN (cs := [(.int .i64 x1.fKey), (.int .i64 x1.fId)]) rfl rfl Try.underlying161 rfl tsz161 rfl ((HM.box_at 0 rfl).sub 0 2 rfl)) ?_
  refine ops_does rfl (guard_none rfl) rfl rfl (does_callk rfl callok158 rfl (slices_Index_impl_Sign.calls (x0 := x0) (x1 := x1) (HM.rd hp0) h1281)) ?_
  rintro _ w1282 ⟨rfl, hn⟩
  replace HM : Mem w [] w1282 [box b1276 161 [.int .i64 x1.fKey, .int .i64 x1.fId]] := HM.call hn
  refine ops_ex rfl (guard_none rfl) rfl rfl (ex_geq rfl rfl rfl) ?_
  refine ops_ex rfl (guard_none rfl) rfl rfl (ex_assign rfl rfl) ?_
  refine ops_nil ?_
  refine at_then ?_
  refine run_ret ?_
  replace HM := (HM.front 0 rfl rfl).drop
  have hR := Option.some.inj H
  subst hR
  exact at_ret1 rfl rfl ⟨_, rfl, rfl, HM⟩

def impl_LedgerFault.l0 (x0 : Ledger) : Nat → Int → Option (Int ⊕ Unit)
  | 0, _ => none
  | k + 1, a1411 => (bif (decide (a1411 < (x0.fTexts.length : Int))) then (chk (idxOk a1411 x0.fTexts.length) ((impl_isText.f k (gt x0.fTexts a1411)).bind fun t1436 => (bif !t1436 then some (.inl 2) else (chk (cutOk a1411 x0.fTexts.length) ((slices_Contains_string.f k (x0.fTexts.take (a1411).toNat) (gt x0.fTexts a1411)).bind fun t1444 => (bif t1444 then some (.inl 7) else impl_LedgerFault.l0 x0 k (wrap64 (a1411 + 1)))))))) else some (.inr ()))
theorem impl_LedgerFault.l0_z (x0 : Ledger) (a1411 : Int) : impl_LedgerFault.l0 x0 0 a1411 = none := rfl
theorem impl_LedgerFault.l0_s (x0 : Ledger) (k : Nat) (a1411 : Int) : impl_LedgerFault.l0 x0 (k + 1) a1411 = (bif (decide (a1411 < (x0.fTexts.length : Int))) then (chk (idxOk a1411 x0.fTexts.length) ((impl_isText.f k (gt x0.fTexts a1411)).bind fun t1436 => (bif !t1436 then some (.inl 2) else (chk (cutOk a1411 x0.fTexts.length) ((slices_Contains_string.f k (x0.fTexts.take (a1411).toNat) (gt x0.fTexts a1411)).bind fun t1444 => (bif t1444 then some (.inl 7) else impl_LedgerFault.l0 x0 k (wrap64 (a1411 + 1)))))))) else some (.inr ())) := rfl
def impl_LedgerFault.l1 (x0 : Ledger) : Nat → Int → Option (Int ⊕ Unit)
  | 0, _ => none
  | k + 1, a1544 => (bif (decide (a1544 < (x0.fSigns.length : Int))) then (chk (idxOk a1544 x0.fSigns.length) ((impl_isKey.f k ((gt x0.fSigns a1544).fKey)).bind fun t1583 => ((bif (!(!t1583)) then impl_within.f k ((gt x0.fSigns a1544).fId) 1 (x0.fTexts.length : Int) else some default).bind fun t1585 => (bif ((!t1583) || (!t1585)) then some (.inl 3) else (chk (cutOk a1544 x0.fSigns.length) ((slices_Contains_impl_Sign.f k (x0.fSigns.take (a1544).toNat) (gt x0.fSigns a1544)).bind fun t1597 => (bif t1597 then some (.inl 7) else impl_LedgerFault.l1 x0 k (wrap64 (a1544 + 1))))))))) else some (.inr ()))
theorem impl_LedgerFault.l1_z (x0 : Ledger) (a1544 : Int) : impl_LedgerFault.l1 x0 0 a1544 = none := rfl
theorem impl_LedgerFault.l1_s (x0 : Ledger) (k : Nat) (a1544 : Int) : impl_LedgerFault.l1 x0 (k + 1) a1544 = (bif (decide (a1544 < (x0.fSigns.length : Int))) then (chk (idxOk a1544 x0.fSigns.length) ((impl_isKey.f k ((gt x0.fSigns a1544).fKey)).bind fun t1583 => ((bif (!(!t1583)) then impl_within.f k ((gt x0.fSigns a1544).fId) 1 (x0.fTexts.length : Int) else some default).bind fun t1585 => (bif ((!t1583) || (!t1585)) then some (.inl 3) else (chk (cutOk a1544 x0.fSigns.length) ((slices_Contains_impl_Sign.f k (x0.fSigns.take (a1544).toNat) (gt x0.fSigns a1544)).bind fun t1597 => (bif t1597 then some (.inl 7) else impl_LedgerFault.l1 x0 k (wrap64 (a1544 + 1))))))))) else some (.inr ())) := rfl
def impl_LedgerFault.f (k : Nat) (x0 : Ledger) : Option Int := (bif ((decide (60 < (x0.fTexts.length : Int))) || (decide (120 < (x0.fSigns.length : Int)))) then some 2 else ((impl_LedgerFault.l0 x0 k 0).bind fun o1393 => thn o1393 (fun r => some r) (fun _ => ((impl_LedgerFault.l1 x0 k 0).bind fun o1519 => thn o1519 (fun r => some r) (fun _ => some 0)))))
theorem impl_LedgerFault.calls {k : Nat} {x0 : Ledger} {p0_0 : Value} {p0_1 : Value} {w : World} (hp0_0 : RdS kStr w p0_0 x0.fTexts) (hp0_1 : RdS kSign w p0_1 x0.fSigns) {r : Int} (H : impl_LedgerFault.f k x0 = some r) :
    Calls Try.prog 63 ([.agg #[p0_0, p0_1]] : List Value).toArray w (fun e w_ => ∃ v, e = .returned v ∧ v = (.int .i64 r) ∧ Mem w [] w_ []) := by
  have HM := Mem.start w
  refine calls_run (N := 63) Try.func63 rfl rfl rfl rfl ?_
  unfold impl_LedgerFault.f at H
  refine run_seq ?_
  refine run_region rfl ?_
  refine ops_does rfl (guard_none rfl) rfl rfl (does_box (cs := [p0_0, p0_1]) rfl rfl rfl HM) ?_
  rintro _ w1338 ⟨b1335, rfl, HM⟩
  refine ops_ex rfl (guard_none rfl) rfl rfl (ex_assign rfl rfl) ?_
  refine ops_nil ?_
  refine at_then ?_
  refine run_seq ?_
  refine run_seq ?_
  refine run_meet (fun ρ_ w_ => ρ_ = [(1, .pointer (some ⟨b1335, 0, none⟩)), (16, .bool ((decide (60 < (x0.fTexts.length : Int))) || (decide (120 < (x0.fSigns.length : Int)))))] ∧ Mem w [] w_ [box b1335 29 [p0_0, p0_1]]) ?_ ?_
  · skip
    refine run_region rfl ?_
    refine ops_ex rfl (guard_none rfl) rfl rfl (ex_fieldAddr (off' := 0) rfl rfl Try.underlying29 rfl tsz22 rfl) ?_
    refine ops_ex rfl (guard_none rfl) rfl rfl (ex_load1 rfl rfl Try.underlying22 rfl ((HM.box_at 0 rfl) 0 _ rfl)) ?_
    refine ops_ex rfl (guard_none rfl) rfl rfl (ex_len (d := kStr) (xs := x0.fTexts) rfl rfl Try.underlying22 hp0_0) ?_
    refine ops_ex rfl (guard_none rfl) rfl rfl (ex_gtr rfl rfl rfl) ?_
    refine ops_ex rfl (guard_none rfl) rfl rfl (ex_move rfl rfl) ?_
    refine bool_cases (decide (60 < (x0.fTexts.length : Int))) (fun hg1340 => ?_) (fun hg1340 => ?_)
    · skip
      refine ops_off rfl (guard_off rfl rfl rfl hg1340) rfl rfl ?_
      refine ops_off rfl (guard_off rfl rfl rfl hg1340) rfl rfl ?_
      refine ops_off rfl (guard_off rfl rfl rfl hg1340) rfl rfl ?_
      refine ops_off rfl (guard_off rfl rfl rfl hg1340) rfl rfl ?_
      have hg1341 : ((decide (60 < (x0.fTexts.length : Int))) || (decide (120 < (x0.fSigns.length : Int)))) = true := by simp only [hg1340, Bool.and_true, Bool.true_and, Bool.and_false, Bool.false_and, Bool.or_true, Bool.true_or, Bool.or_false, Bool.false_or, Bool.not_true, Bool.not_false, Bool.not_not]
      refine ops_ex (v := .bool ((decide (60 < (x0.fTexts.length : Int))) || (decide (120 < (x0.fSigns.length : Int))))) rfl (guard_none rfl) rfl rfl (ex_por_t rfl rfl hg1340) ?_
      refine ops_nil ?_
      exact at_meet [(1, .pointer (some ⟨b1335, 0, none⟩)), (16, .bool ((decide (60 < (x0.fTexts.length : Int))) || (decide (120 < (x0.fSigns.length : Int)))))] ⟨rfl, HM⟩ (Sub.cons rfl (Sub.cons rfl Sub.nil))
    · skip
      refine ops_ex rfl (guard_on rfl rfl rfl hg1340) rfl rfl (ex_fieldAddr (off' := 1) rfl rfl Try.underlying29 rfl tsz27 rfl) ?_
      refine ops_ex rfl (guard_on rfl rfl rfl hg1340) rfl rfl (ex_load1 rfl rfl Try.underlying27 rfl ((HM.box_at 0 rfl) 1 _ rfl)) ?_
      refine ops_ex rfl (guard_on rfl rfl rfl hg1340) rfl rfl (ex_len (d := kSign) (xs := x0.fSigns) rfl rfl Try.underlying27 hp0_1) ?_
      refine ops_ex rfl (guard_on rfl rfl rfl hg1340) rfl rfl (ex_gtr rfl rfl rfl) ?_
      refine ops_ex (v := .bool ((decide (60 < (x0.fTexts.length : Int))) || (decide (120 < (x0.fSigns.length : Int))))) rfl (guard_none rfl) rfl rfl (ex_por_f rfl rfl hg1340 rfl) ?_
      refine ops_nil ?_
      exact at_meet [(1, .pointer (some ⟨b1335, 0, none⟩)), (16, .bool ((decide (60 < (x0.fTexts.length : Int))) || (decide (120 < (x0.fSigns.length : Int)))))] ⟨rfl, HM⟩ (Sub.cons rfl (Sub.cons rfl Sub.nil))
  · rintro _ w1342 ⟨rfl, HM⟩
    refine at_then ?_
    refine run_cond (b := ((decide (60 < (x0.fTexts.length : Int))) || (decide (120 < (x0.fSigns.length : Int))))) rfl (fun hb1343 => ?_) (fun hb1343 => ?_)
    · replace H := cond_t hb1343 H
      refine run_seq ?_
      refine run_region rfl ?_
      refine ops_ex rfl (guard_none rfl) rfl rfl (ex_assign rfl rfl) ?_
      refine ops_nil ?_
      refine at_then ?_
      refine run_ret ?_
      refine at_then_ret ?_
      replace HM := (HM.front 0 rfl rfl).drop
      have hR := Option.some.inj H
      subst hR
      exact at_ret1 rfl rfl ⟨_, rfl, rfl, HM⟩
    · replace H := cond_f hb1343 H
      refine run_skip ?_
      refine at_then ?_
      obtain ⟨o1393, ho1394, H⟩ := bind_some H
      refine run_mid (fun ρ_ w_ => Sum.inr () = o1393 ∧ ρ_ = [(1, .pointer (some ⟨b1335, 0, none⟩))] ∧ Mem w [] w_ [box b1335 29 [p0_0, p0_1]]) ?_ ?_
      · skip
        refine run_seq ?_
        refine run_region rfl ?_
        refine ops_ex rfl (guard_none rfl) rfl rfl (ex_fieldAddr (off' := 0) rfl rfl Try.underlying29 rfl tsz22 rfl) ?_
        refine ops_ex rfl (guard_none rfl) rfl rfl (ex_load1 rfl rfl Try.underlying22 rfl ((HM.box_at 0 rfl) 0 _ rfl)) ?_
        refine ops_ex rfl (guard_none rfl) rfl rfl (ex_len (d := kStr) (xs := x0.fTexts) rfl rfl Try.underlying22 hp0_0) ?_
        refine ops_ex rfl (guard_none rfl) rfl rfl (ex_move rfl rfl) ?_
        refine ops_nil ?_
        refine at_then ?_
        refine run_block ?_
        refine run_loop (fun k_ ρ_ w_ => ∃ a1411 : Int, impl_LedgerFault.l0 x0 k_ a1411 = some o1393 ∧ ρ_ = [(1, .pointer (some ⟨b1335, 0, none⟩)), (18, p0_0), (19, .int .i64 (x0.fTexts.length : Int)), (20, .int .i64 a1411)] ∧ Mem w [] w_ [box b1335 29 [p0_0, p0_1]]) k (ρ1 := [(1, .pointer (some ⟨b1335, 0, none⟩)), (18, p0_0), (19, .int .i64 (x0.fTexts.length : Int)), (20, .int .i64 0)]) ⟨_, ho1394, rfl, HM⟩ (Sub.cons rfl (Sub.cons rfl (Sub.cons rfl (Sub.cons rfl Sub.nil)))) ?_
        clear HM ho1394
        rintro k1428 _ w1429 ⟨a1411, ho1394, rfl, HM⟩
        obtain _ | k1428 := k1428
        · exact nomatch ((impl_LedgerFault.l0_z x0 a1411).symm.trans ho1394)
        replace ho1394 := (impl_LedgerFault.l0_s x0 k1428 a1411).symm.trans ho1394
        refine run_seq ?_
        refine run_region rfl ?_
        refine ops_ex rfl (guard_none rfl) rfl rfl (ex_lss rfl rfl rfl) ?_
        refine ops_nil ?_
        refine at_then ?_
        refine run_seq ?_
        refine run_cond (b := (decide (a1411 < (x0.fTexts.length : Int)))) rfl (fun hb1430 => ?_) (fun hb1430 => ?_)
        · replace ho1394 := cond_t hb1430 ho1394
          refine run_skip ?_
          refine at_then ?_
          refine run_seq ?_
          refine run_block ?_
          refine run_seq ?_
          obtain ⟨e1431, ho1394⟩ := chk_some ho1394
          refine run_region rfl ?_
          refine ops_ex rfl (guard_none rfl) rfl rfl (ex_move rfl rfl) ?_
          have hc1432 : CellsAt _ (sb p0_0) (so p0_0 + (a1411).toNat * 1) [(.string (gt x0.fTexts a1411))] := rd_plain hp0_0 e1431
          refine ops_ex rfl (guard_none rfl) rfl rfl (ex_indexAddr (d := kStr) rfl rfl rfl Try.underlying22 tsz9 hp0_0 (idx_lo e1431) (idx_hi e1431)) ?_
          refine ops_ex rfl (guard_none rfl) rfl rfl (ex_load1 rfl rfl Try.underlying9 rfl ((HM.at_ hc1432) 0 _ rfl)) ?_
          refine ops_ex rfl (guard_none rfl) rfl rfl (ex_assign rfl rfl) ?_
          refine ops_ex rfl (guard_none rfl) rfl rfl (ex_assign rfl rfl) ?_
          refine ops_nil ?_
          refine at_then ?_
          refine run_seq ?_
          refine run_seq ?_
          obtain ⟨t1436, h1437, ho1394⟩ := bind_some ho1394
          refine run_region rfl ?_
          refine ops_ex rfl (guard_none rfl) rfl rfl (ex_move rfl rfl) ?_
          refine ops_does rfl (guard_none rfl) rfl rfl (does_callk rfl callok66 rfl (impl_isText.calls (x0 := (gt x0.fTexts a1411)) h1437)) ?_
          rintro _ w1438 ⟨rfl, hn⟩
          replace HM : Mem w [] w1438 [box b1335 29 [p0_0, p0_1]] := HM.call hn
          refine ops_ex rfl (guard_none rfl) rfl rfl (ex_not rfl rfl) ?_
          refine ops_nil ?_
          refine at_then ?_
          refine run_cond (b := !t1436) rfl (fun hb1439 => ?_) (fun hb1439 => ?_)
          · replace ho1394 := cond_t hb1439 ho1394
            refine run_seq ?_
            refine run_region rfl ?_
            refine ops_ex rfl (guard_none rfl) rfl rfl (ex_assign rfl rfl) ?_
            refine ops_nil ?_
            refine at_then ?_
            refine run_ret ?_
            refine at_then_ret ?_
            refine at_block_ret ?_
            refine at_then_ret ?_
            refine at_then_ret ?_
            refine at_block_ret ?_
            refine at_then_ret ?_
            replace HM := (HM.front 0 rfl rfl).drop
            have hR := Option.some.inj ho1394
            subst hR
            have hT := thn_inl H
            have hR := Option.some.inj hT
            subst hR
            exact at_ret1 rfl rfl ⟨_, rfl, rfl, HM⟩
          · replace ho1394 := cond_f hb1439 ho1394
            refine run_skip ?_
            refine at_then ?_
            refine run_seq ?_
            obtain ⟨e1440, ho1394⟩ := chk_some ho1394
            obtain ⟨t1444, h1445, ho1394⟩ := bind_some ho1394
            refine run_region rfl ?_
            refine ops_ex rfl (guard_none rfl) rfl rfl (ex_fieldAddr (off' := 0) rfl rfl Try.underlying29 rfl tsz22 rfl) ?_
            refine ops_ex rfl (guard_none rfl) rfl rfl (ex_load1 rfl rfl Try.underlying22 rfl ((HM.box_at 0 rfl) 0 _ rfl)) ?_
            refine ops_ex rfl (guard_none rfl) rfl rfl (ex_move rfl rfl) ?_
            refine ops_exE rfl (guard_none rfl) rfl rfl (ex_cutH kStr rfl rfl rfl Try.underlying22 tsz9 hp0_0 e1440) ?_
            rintro u1441 hr1443
            refine ops_ex rfl (guard_none rfl) rfl rfl (ex_move rfl rfl) ?_
            refine ops_does rfl (guard_none rfl) rfl rfl (does_callk rfl callok110 rfl (slices_Contains_string.calls (x0 := x0.fTexts.take (a1411).toNat) (x1 := (gt x0.fTexts a1411)) (HM.rd hr1443) h1445)) ?_
            rintro _ w1446 ⟨rfl, hn⟩
            replace HM : Mem w [] w1446 [box b1335 29 [p0_0, p0_1]] := HM.call hn
            refine ops_nil ?_
            refine at_then ?_
            refine run_cond (b := t1444) rfl (fun hb1447 => ?_) (fun hb1447 => ?_)
            · replace ho1394 := cond_t hb1447 ho1394
              refine run_seq ?_
              refine run_region rfl ?_
              refine ops_ex rfl (guard_none rfl) rfl rfl (ex_assign rfl rfl) ?_
              refine ops_nil ?_
              refine at_then ?_
              refine run_ret ?_
              refine at_block_ret ?_
              refine at_then_ret ?_
              refine at_then_ret ?_
              refine at_block_ret ?_
              refine at_then_ret ?_
              replace HM := (HM.front 0 rfl rfl).drop
              have hR := Option.some.inj ho1394
              subst hR
              have hT := thn_inl H
              have hR := Option.some.inj hT
              subst hR
              exact at_ret1 rfl rfl ⟨_, rfl, rfl, HM⟩
            · replace ho1394 := cond_f hb1447 ho1394
              refine run_skip ?_
              refine at_block ?_
              refine at_then ?_
              refine run_region rfl ?_
              refine ops_ex rfl (guard_none rfl) rfl rfl (ex_add rfl rfl rfl) ?_
              refine ops_ex rfl (guard_none rfl) rfl rfl (ex_move rfl rfl) ?_
              refine ops_nil ?_
              exact at_again k1428 (ρ1 := [(1, .pointer (some ⟨b1335, 0, none⟩)), (18, p0_0), (19, .int .i64 (x0.fTexts.length : Int)), (20, .int .i64 (wrap64 (a1411 + 1)))]) (Nat.lt_succ_self _) ⟨_, ho1394, rfl, HM⟩ (Sub.cons rfl (Sub.cons rfl (Sub.cons rfl (Sub.cons rfl Sub.nil))))
        · replace ho1394 := cond_f hb1430 ho1394
          refine run_exit ?_
          refine at_then_exit ?_
          refine at_then_exit ?_
          refine at_block_exit ?_
          exact at_mid (ρ' := [(1, .pointer (some ⟨b1335, 0, none⟩))]) ⟨(Option.some.inj ho1394), rfl, HM⟩ (Sub.cons rfl Sub.nil)
      · rintro _ w1448 ⟨rfl, rfl, HM⟩
        replace H := (thn_inr H)
        obtain ⟨o1519, ho1520, H⟩ := bind_some H
        refine run_mid (fun ρ_ w_ => Sum.inr () = o1519 ∧ ρ_ = [] ∧ Mem w [] w_ []) ?_ ?_
        · skip
          refine run_seq ?_
          refine run_region rfl ?_
          refine ops_ex rfl (guard_none rfl) rfl rfl (ex_fieldAddr (off' := 1) rfl rfl Try.underlying29 rfl tsz27 rfl) ?_
          refine ops_ex rfl (guard_none rfl) rfl rfl (ex_load1 rfl rfl Try.underlying27 rfl ((HM.box_at 0 rfl) 1 _ rfl)) ?_
          refine ops_ex rfl (guard_none rfl) rfl rfl (ex_len (d := kSign) (xs := x0.fSigns) rfl rfl Try.underlying27 hp0_1) ?_
          refine ops_ex rfl (guard_none rfl) rfl rfl (ex_move rfl rfl) ?_
          refine ops_nil ?_
          refine at_then ?_
          refine run_block ?_
          refine run_loop (fun k_ ρ_ w_ => ∃ a1544 : Int, impl_LedgerFault.l1 x0 k_ a1544 = some o1519 ∧ ρ_ = [(1, .pointer (some ⟨b1335, 0, none⟩)), (36, p0_1), (37, .int .i64 (x0.fSigns.length : Int)), (38, .int .i64 a1544)] ∧ Mem w [] w_ [box b1335 29 [p0_0, p0_1]]) k (ρ1 := [(1, .pointer (some ⟨b1335, 0, none⟩)), (36, p0_1), (37, .int .i64 (x0.fSigns.length : Int)), (38, .int .i64 0)]) ⟨_, ho1520, rfl, HM⟩ (Sub.cons rfl (Sub.cons rfl (Sub.cons rfl (Sub.cons rfl Sub.nil)))) ?_
          clear HM ho1520
          rintro k1568 _ w1569 ⟨a1544, ho1520, rfl, HM⟩
          obtain _ | k1568 := k1568
          · exact nomatch ((impl_LedgerFault.l1_z x0 a1544).symm.trans ho1520)
          replace ho1520 := (impl_LedgerFault.l1_s x0 k1568 a1544).symm.trans ho1520
          refine run_seq ?_
          refine run_region rfl ?_
          refine ops_ex rfl (guard_none rfl) rfl rfl (ex_lss rfl rfl rfl) ?_
          refine ops_nil ?_
          refine at_then ?_
          refine run_seq ?_
          refine run_cond (b := (decide (a1544 < (x0.fSigns.length : Int)))) rfl (fun hb1570 => ?_) (fun hb1570 => ?_)
          · replace ho1520 := cond_t hb1570 ho1520
            refine run_skip ?_
            refine at_then ?_
            refine run_seq ?_
            refine run_block ?_
            refine run_seq ?_
            obtain ⟨e1571, ho1520⟩ := chk_some ho1520
            refine run_region rfl ?_
            refine ops_ex rfl (guard_none rfl) rfl rfl (ex_move rfl rfl) ?_
            have hc1572 : CellsAt _ (sb p0_1) (so p0_1 + (a1544).toNat * 2) [(.int .i64 ((gt x0.fSigns a1544).fKey)), (.int .i64 ((gt x0.fSigns a1544).fId))] := rd_plain hp0_1 e1571
            refine ops_ex rfl (guard_none rfl) rfl rfl (ex_indexAddr (d := kSign) rfl rfl rfl Try.underlying27 tsz161 hp0_1 (idx_lo e1571) (idx_hi e1571)) ?_
            refine ops_ex rfl (guard_none rfl) rfl rfl (ex_loadN (cs := [(.int .i64 ((gt x0.fSigns a1544).fKey)), (.int .i64 ((gt x0.fSigns a1544).fId))]) rfl rfl Try.underlying161 rfl tsz161 rfl ((HM.at_ hc1572).sub 0 2 rfl)) ?_
            refine ops_does rfl (guard_none rfl) rfl rfl (does_alloc (cs := [.int .i64 0, .int .i64 0]) rfl tz161 rfl HM) ?_
            rintro _ w1576 ⟨b1573, rfl, HM⟩
            refine ops_ex rfl (guard_none rfl) rfl rfl (ex_assign rfl rfl) ?_
            refine ops_doesS rfl (guard_none rfl) rfl (does_store (vs := [.int .i64 ((gt x0.fSigns a1544).fKey), .int .i64 ((gt x0.fSigns a1544).fId)]) (cs' := [.int .i64 ((gt x0.fSigns a1544).fKey), .int .i64 ((gt x0.fSigns a1544).fId)]) rfl rfl rfl rfl tsz161 (Ones.int (Ones.int Ones.nil)) rfl rfl HM) ?_
            rintro w1577 HM
            refine ops_nil ?_
            refine at_then ?_
            refine run_seq ?_
            refine run_seq ?_
            obtain ⟨t1583, h1584, ho1520⟩ := bind_some ho1520
            obtain ⟨t1585, h1586, ho1520⟩ := bind_some ho1520
            refine run_meet (fun ρ_ w_ => ρ_ = [(1, .pointer (some ⟨b1335, 0, none⟩)), (36, p0_1), (37, .int .i64 (x0.fSigns.length : Int)), (38, .int .i64 a1544), (6, .pointer (some ⟨b1573, 0, none⟩)), (5, .int .i64 a1544), (55, .bool ((!t1583) || (!t1585)))] ∧ Mem w [] w_ [box b1335 29 [p0_0, p0_1], box b1573 161 [.int .i64 ((gt x0.fSigns a1544).fKey), .int .i64 ((gt x0.fSigns a1544).fId)]]) ?_ ?_
            · skip
              refine run_region rfl ?_
              refine ops_ex rfl (guard_none rfl) rfl rfl (ex_fieldAddr (off' := 0) rfl rfl Try.underlying161 rfl tsz2 rfl) ?_
              refine ops_ex rfl (guard_none rfl) rfl rfl (ex_load1 rfl rfl Try.underlying2 rfl ((HM.box_at 0 rfl) 0 _ rfl)) ?_
              refine ops_does rfl (guard_none rfl) rfl rfl (does_callk rfl callok111 rfl (impl_isKey.calls (x0 := (gt x0.fSigns a1544).fKey) h1584)) ?_
              rintro _ w1587 ⟨rfl, hn⟩
              replace HM : Mem w [] w1587 [box b1573 161 [.int .i64 ((gt x0.fSigns a1544).fKey), .int .i64 ((gt x0.fSigns a1544).fId)], box b1335 29 [p0_0, p0_1]] := HM.call hn
              refine ops_ex rfl (guard_none rfl) rfl rfl (ex_not rfl rfl) ?_
              refine ops_ex rfl (guard_none rfl) rfl rfl (ex_move rfl rfl) ?_
              refine bool_cases (!t1583) (fun hg1588 => ?_) (fun hg1588 => ?_)
              · skip
                refine ops_off rfl (guard_off rfl rfl rfl hg1588) rfl rfl ?_
                refine ops_off rfl (guard_off rfl rfl rfl hg1588) rfl rfl ?_
                refine ops_off rfl (guard_off rfl rfl rfl hg1588) rfl rfl ?_
                refine ops_off rfl (guard_off rfl rfl rfl hg1588) rfl rfl ?_
                refine ops_off rfl (guard_off rfl rfl rfl hg1588) rfl rfl ?_
                refine ops_off rfl (guard_off rfl rfl rfl hg1588) rfl rfl ?_
                refine ops_off rfl (guard_off rfl rfl rfl hg1588) rfl rfl ?_
                have hg1589 : ((!t1583) || (!t1585)) = true := by simp only [hg1588, Bool.and_true, Bool.true_and, Bool.and_false, Bool.false_and, Bool.or_true, Bool.true_or, Bool.or_false, Bool.false_or, Bool.not_true, Bool.not_false, Bool.not_not]
                refine ops_ex (v := .bool ((!t1583) || (!t1585))) rfl (guard_none rfl) rfl rfl (ex_por_t rfl rfl hg1588) ?_
                refine ops_nil ?_
                replace HM := HM.front 1 rfl rfl
                exact at_meet [(1, .pointer (some ⟨b1335, 0, none⟩)), (36, p0_1), (37, .int .i64 (x0.fSigns.length : Int)), (38, .int .i64 a1544), (6, .pointer (some ⟨b1573, 0, none⟩)), (5, .int .i64 a1544), (55, .bool ((!t1583) || (!t1585)))] ⟨rfl, HM⟩ (Sub.cons rfl (Sub.cons rfl (Sub.cons rfl (Sub.cons rfl (Sub.cons rfl (Sub.cons rfl (Sub.cons rfl Sub.nil)))))))
              · skip
                refine ops_ex rfl (guard_on rfl rfl rfl hg1588) rfl rfl (ex_fieldAddr (off' := 1) rfl rfl Try.underlying161 rfl tsz2 rfl) ?_
                refine ops_ex rfl (guard_on rfl rfl rfl hg1588) rfl rfl (ex_load1 rfl rfl Try.underlying2 rfl ((HM.box_at 0 rfl) 1 _ rfl)) ?_
                refine ops_ex rfl (guard_on rfl rfl rfl hg1588) rfl rfl (ex_fieldAddr (off' := 0) rfl rfl Try.underlying29 rfl tsz22 rfl) ?_
                refine ops_ex rfl (guard_on rfl rfl rfl hg1588) rfl rfl (ex_load1 rfl rfl Try.underlying22 rfl ((HM.box_at 1 rfl) 0 _ rfl)) ?_
                refine ops_ex rfl (guard_on rfl rfl rfl hg1588) rfl rfl (ex_len (d := kStr) (xs := x0.fTexts) rfl rfl Try.underlying22 hp0_0) ?_
                refine ops_does rfl (guard_on rfl rfl rfl hg1588) rfl rfl (does_callk rfl callok112 rfl (impl_within.calls (x0 := (gt x0.fSigns a1544).fId) (x1 := 1) (x2 := (x0.fTexts.length : Int)) (cond_t (not_mk hg1588) h1586))) ?_
                rintro _ w1590 ⟨rfl, hn⟩
                replace HM : Mem w [] w1590 [box b1573 161 [.int .i64 ((gt x0.fSigns a1544).fKey), .int .i64 ((gt x0.fSigns a1544).fId)], box b1335 29 [p0_0, p0_1]] := HM.call hn
                refine ops_ex rfl (guard_on rfl rfl rfl hg1588) rfl rfl (ex_not rfl rfl) ?_
                refine ops_ex (v := .bool ((!t1583) || (!t1585))) rfl (guard_none rfl) rfl rfl (ex_por_f rfl rfl hg1588 rfl) ?_
                refine ops_nil ?_
                replace HM := HM.front 1 rfl rfl
                exact at_meet [(1, .pointer (some ⟨b1335, 0, none⟩)), (36, p0_1), (37, .int .i64 (x0.fSigns.length : Int)), (38, .int .i64 a1544), (6, .pointer (some ⟨b1573, 0, none⟩)), (5, .int .i64 a1544), (55, .bool ((!t1583) || (!t1585)))] ⟨rfl, HM⟩ (Sub.cons rfl (Sub.cons rfl (Sub.cons rfl (Sub.cons rfl (Sub.cons rfl (Sub.cons rfl (Sub.cons rfl Sub.nil)))))))
            · rintro _ w1591 ⟨rfl, HM⟩
              refine at_then ?_
              refine run_cond (b := ((!t1583) || (!t1585))) rfl (fun hb1592 => ?_) (fun hb1592 => ?_)
              · replace ho1520 := cond_t hb1592 ho1520
                refine run_seq ?_
                refine run_region rfl ?_
                refine ops_ex rfl (guard_none rfl) rfl rfl (ex_assign rfl rfl) ?_
                refine ops_nil ?_
                refine at_then ?_
                refine run_ret ?_
                refine at_then_ret ?_
                refine at_block_ret ?_
                refine at_then_ret ?_
                refine at_then_ret ?_
                refine at_block_ret ?_
                refine at_then_ret ?_
                replace HM := (HM.front 0 rfl rfl).drop
                replace HM := (HM.front 0 rfl rfl).drop
                have hR := Option.some.inj ho1520
                subst hR
                have hT := thn_inl H
                have hR := Option.some.inj hT
                subst hR
                exact at_ret1 rfl rfl ⟨_, rfl, rfl, HM⟩
              · replace ho1520 := cond_f hb1592 ho1520
                refine run_skip ?_
                refine at_then ?_
                refine run_seq ?_
                obtain ⟨e1593, ho1520⟩ := chk_some ho1520
                obtain ⟨t1597, h1598, ho1520⟩ := bind_some ho1520
                refine run_drawf (fun w_ => Mem w [] w_ [box b1335 29 [p0_0, p0_1], box b1573 161 [.int .i64 ((gt x0.fSigns a1544).fKey), .int .i64 ((gt x0.fSigns a1544).fId)]]) [(0, true), (1, true), (2, true), (3, true), (4, true), (5, false)] mixed rfl rfl (by kernel_rfl) ?_
                replace HM := HM.grow (fr_drew _)
                have hS := Mem.suf (M := []) HM
                refine drwp_take rfl (guard_none rfl) rfl rfl (fun w_ hS_ => (ex_fieldAddr (off' := 1) rfl rfl Try.underlying29 rfl tsz27 rfl)) hS ?_
                refine drwp_take rfl (guard_none rfl) rfl rfl (fun w_ hS_ => (ex_load1 rfl rfl Try.underlying27 rfl ((hS_.box_at 0 rfl) 1 _ rfl))) hS ?_
                refine drwp_take rfl (guard_none rfl) rfl rfl (fun w_ hS_ => (ex_move rfl rfl)) hS ?_
                refine drwp_takeE rfl (guard_none rfl) rfl rfl (ex_cutH kSign rfl rfl rfl Try.underlying27 tsz161 hp0_1 e1593) hS ?_
                rintro u1594 hr1596
                refine drwp_take rfl (guard_none rfl) rfl rfl (fun w_ hS_ => (ex_loadN (cs := [(.int .i64 ((gt x0.fSigns a1544).fKey)), (.int .i64 ((gt x0.fSigns a1544).fId))]) rfl rfl Try.underlying161 rfl tsz161 rfl ((hS_.box_at 1 rfl).sub 0 2 rfl))) hS ?_
                refine drwp_one rfl (guard_none rfl) rfl rfl (does_callk rfl callok113 rfl (slices_Contains_impl_Sign.calls (x0 := x0.fSigns.take (a1544).toNat) (x1 := (gt x0.fSigns a1544)) (HM.rd hr1596) h1598)) ?_
                rintro _ w1599 ⟨rfl, hn⟩
                replace HM : Mem w [] w1599 [box b1335 29 [p0_0, p0_1], box b1573 161 [.int .i64 ((gt x0.fSigns a1544).fKey), .int .i64 ((gt x0.fSigns a1544).fId)]] := HM.call hn
                refine ⟨Mem.suf (M := []) HM, ?_⟩
                have hS := Mem.suf (M := []) HM
                refine drwp_done ?_
                refine at_then ?_
                refine run_cond (b := t1597) rfl (fun hb1600 => ?_) (fun hb1600 => ?_)
                · replace ho1520 := cond_t hb1600 ho1520
                  refine run_seq ?_
                  refine run_region rfl ?_
                  refine ops_ex rfl (guard_none rfl) rfl rfl (ex_assign rfl rfl) ?_
                  refine ops_nil ?_
                  refine at_then ?_
                  refine run_ret ?_
                  refine at_block_ret ?_
                  refine at_then_ret ?_
                  refine at_then_ret ?_
                  refine at_block_ret ?_
                  refine at_then_ret ?_
                  replace HM := (HM.front 0 rfl rfl).drop
                  replace HM := (HM.front 0 rfl rfl).drop
                  have hR := Option.some.inj ho1520
                  subst hR
                  have hT := thn_inl H
                  have hR := Option.some.inj hT
                  subst hR
                  exact at_ret1 rfl rfl ⟨_, rfl, rfl, HM⟩
                · replace ho1520 := cond_f hb1600 ho1520
                  refine run_skip ?_
                  refine at_block ?_
                  refine at_then ?_
                  refine run_region rfl ?_
                  refine ops_ex rfl (guard_none rfl) rfl rfl (ex_add rfl rfl rfl) ?_
                  refine ops_ex rfl (guard_none rfl) rfl rfl (ex_move rfl rfl) ?_
                  refine ops_nil ?_
                  replace HM := (HM.front 1 rfl rfl).drop
                  exact at_again k1568 (ρ1 := [(1, .pointer (some ⟨b1335, 0, none⟩)), (36, p0_1), (37, .int .i64 (x0.fSigns.length : Int)), (38, .int .i64 (wrap64 (a1544 + 1)))]) (Nat.lt_succ_self _) ⟨_, ho1520, rfl, HM⟩ (Sub.cons rfl (Sub.cons rfl (Sub.cons rfl (Sub.cons rfl Sub.nil))))
          · replace ho1520 := cond_f hb1570 ho1520
            refine run_exit ?_
            refine at_then_exit ?_
            refine at_then_exit ?_
            refine at_block_exit ?_
            replace HM := (HM.front 0 rfl rfl).drop
            exact at_mid (ρ' := []) ⟨(Option.some.inj ho1520), rfl, HM⟩ Sub.nil
        · rintro _ w1601 ⟨rfl, rfl, HM⟩
          replace H := (thn_inr H)
          refine run_seq ?_
          refine run_region rfl ?_
          refine ops_ex rfl (guard_none rfl) rfl rfl (ex_assign rfl rfl) ?_
          refine ops_nil ?_
          refine at_then ?_
          refine run_ret ?_
          have hR := Option.some.inj H
          subst hR
          exact at_ret1 rfl rfl ⟨_, rfl, rfl, HM⟩
end Go.Proofs.Ytigojhglkilodaa.Zk
