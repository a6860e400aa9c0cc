/- What functions of the program compute, each as a plain function, and that they do. Conditions: as each theorem states them. -/
import Derived.Test.YtpfaihnmonfkhaaGreatDoorCheckTxZkF3
namespace Go.Proofs.YtpfaihnmonfkhaaGreatDoor.Zk
open Go Go.RowKit Go.IntWalk Go.Proofs
set_option linter.unusedVariables false
set_option linter.unusedSimpArgs false
set_option maxRecDepth 100000
set_option maxHeartbeats 4000000
def spec_l2Digits.f : Nat → Int → Option ByteArray
 | 0, _ => none
 | k + 1, x0 => (bif (decide (x0 < 10)) then some (strOfNums ([IntKind.u8.wrap (wrap64 (48 + x0))] : List Int)) else (chk ((10 : Int) != 0) (chk ((10 : Int) != 0) ((spec_l2Digits.f k (IntKind.i64.wrap (Int.tdiv x0 (10 : Int)))).bind fun t3098 => (chk (leB (t3098.size + (strOfNums ([IntKind.u8.wrap (wrap64 (48 + (Int.tmod x0 (10 : Int))))] : List Int)).size) 9223372036854775807) (some (t3098 ++ (strOfNums ([IntKind.u8.wrap (wrap64 (48 + (Int.tmod x0 (10 : Int))))] : List Int)))))))))
theorem spec_l2Digits.f_s (k : Nat) (x0 : Int) : spec_l2Digits.f (k + 1) x0 = (bif (decide (x0 < 10)) then some (strOfNums ([IntKind.u8.wrap (wrap64 (48 + x0))] : List Int)) else (chk ((10 : Int) != 0) (chk ((10 : Int) != 0) ((spec_l2Digits.f k (IntKind.i64.wrap (Int.tdiv x0 (10 : Int)))).bind fun t3098 => (chk (leB (t3098.size + (strOfNums ([IntKind.u8.wrap (wrap64 (48 + (Int.tmod x0 (10 : Int))))] : List Int)).size) 9223372036854775807) (some (t3098 ++ (strOfNums ([IntKind.u8.wrap (wrap64 (48 + (Int.tmod x0 (10 : Int))))] : List Int))))))))) := rfl
theorem spec_l2Digits.calls_all : ∀ (k : Nat) (x0 : Int), ∀ {w : World} {r : ByteArray} (H : spec_l2Digits.f k x0 = some r),
  Calls Tryz.prog 86 ([.int .i64 x0] : List Value).toArray w (fun e w_ => ∃ v, e = .returned v ∧ v = (.string r) ∧ Mem w [] w_ []) := by
 intro k
 induction k with
 | zero => intro x0  w  r H; exact nomatch H
 | succ k ih =>
 intro x0  w  r H
 have HM := Mem.start w
 refine calls_run (N := 20) Tryz.func86 rfl rfl rfl rfl ?_
 rw [spec_l2Digits.f_s] at H
 refine run_seq ?_
 refine run_region rfl ?_
 refine ox rfl rfl rfl rfl (ex_assign rfl rfl) ?_
 refine ops_nil (at_then (run_seq ?_))
 refine run_seq ?_
 refine run_region rfl ?_
 refine ox rfl rfl rfl rfl (ex_move rfl rfl) ?_
 refine ox rfl rfl rfl rfl (ex_lss rfl rfl rfl) ?_
 refine ops_nil (at_then ?_)
 refine run_cond (b := (decide (x0 < 10))) rfl (fun hb3091 => ?_) (fun hb3091 => ?_)
 ·replace H := cond_t hb3091 H
  refine run_seq ?_
  refine run_region rfl ?_
  refine ox rfl rfl rfl rfl (ex_move rfl rfl) ?_
  refine ox rfl rfl rfl rfl (ex_add rfl rfl rfl) ?_
  refine ox rfl rfl rfl rfl (ex_conv rfl rfl (by rw [Tryz.underlying2]; rfl) Tryz.underlying5) ?_
  refine od rfl rfl rfl rfl (does_lit (e := 5) (cs := [.int .u8 (IntKind.u8.wrap (wrap64 (48 + x0)))]) (xs := ([IntKind.u8.wrap (wrap64 (48 + x0))] : List Int)) kU8 rfl rfl (fun _ => by kernel_rfl) rfl rfl (fun _ _ h => by have h' : _ = [] := h; subst h'; exact (Elems.cons (d := kU8) (x := IntKind.u8.wrap (wrap64 (48 + x0))) (f := []) ⟨rfl, rfl⟩ .nil)) HM.emp) ?_
  rintro v3092 w3095 HM
  refine ox rfl rfl rfl rfl (ex_bstr (e := 5) rfl rfl Tryz.underlying156 Tryz.underlying5 Tryz.underlying9 (HM.own_rd 0 rfl)) ?_
  refine ox rfl rfl rfl rfl (ex_assign rfl rfl) ?_
  refine ops_nil (at_then ?_)
  refine run_ret ?_
  refine at_then_ret ?_
  replace HM := (HM.front 0 rfl rfl).drop
  have hR := Option.some.inj H
  subst hR
  exact at_ret1 rfl rfl ⟨_, rfl, rfl, HM⟩
 ·replace H := cond_f hb3091 H
  refine run_skip ?_
  refine at_then ?_
  refine run_seq ?_
  obtain ⟨e3096, H⟩ := chk_some H
  obtain ⟨e3097, H⟩ := chk_some H
  obtain ⟨t3098, h3099, H⟩ := bind_some H
  obtain ⟨e3103, H⟩ := chk_some H
  refine run_meet (fun ρ_ w_ => ρ_ = [(2, .string (t3098 ++ (strOfNums ([IntKind.u8.wrap (wrap64 (48 + (Int.tmod x0 (10 : Int))))] : List Int))))] ∧ Mem w [] w_ []) ?_ ?_
  ·skip
   refine run_draw (fun w_ => Mem w [] w_ []) mixed rfl (l := #[false, false, false, false, false, false, false, false, false, false, false]) rfl ?_
   replace HM := HM.grow (fr_drew _)
   have hS := Mem.suf (M := []) HM
   refine drw_cut1 (l' := #[true, true, true, true, true, true, true, true, true, false, false]) (f' := 2) (fun (v3100 : Value) => [(2, .string (⟨#[]⟩ : ByteArray)), (12, .string t3098), (18, .string (strOfNums ([IntKind.u8.wrap (wrap64 (48 + (Int.tmod x0 (10 : Int))))] : List Int)))]) (fun (v3100 : Value) => fun w_ => Mem w [] w_ [own kU8 5 v3100 ([IntKind.u8.wrap (wrap64 (48 + (Int.tmod x0 (10 : Int))))] : List Int)]) ?_ (fun K3109 => ?_)
   ·rintro v3100 w3110 HM
    replace HM : Mem w [] w3110 [own kU8 5 v3100 ([IntKind.u8.wrap (wrap64 (48 + (Int.tmod x0 (10 : Int))))] : List Int)] := HM
    have hS := Mem.suf (M := [own kU8 5 v3100 ([IntKind.u8.wrap (wrap64 (48 + (Int.tmod x0 (10 : Int))))] : List Int)]) HM
    refine dt 9 #[true, true, true, true, true, true, true, true, true, true, false] rfl rfl rfl rfl (by kernel_rfl) (ex_sadd rfl rfl rfl (leB_le e3103)) hS ?_
    refine dt 10 #[true, true, true, true, true, true, true, true, true, true, true] rfl rfl rfl rfl (by kernel_rfl) (ex_assign rfl rfl) hS ?_
    refine drw_done (by kernel_rfl) ?_
    replace HM := (HM.front 0 rfl rfl).drop
    exact at_meet [(2, .string (t3098 ++ (strOfNums ([IntKind.u8.wrap (wrap64 (48 + (Int.tmod x0 (10 : Int))))] : List Int))))] ⟨rfl, HM⟩ (Sub.cons rfl Sub.nil)
   refine drw_cut1 (l' := #[true, true, true, true, true, true, true, true, false, false, false]) (f' := 3) (fun (v3100 : Value) => [(2, .string (⟨#[]⟩ : ByteArray)), (12, .string t3098), (17, v3100)]) (fun (v3100 : Value) => fun w_ => Mem w [] w_ [own kU8 5 v3100 ([IntKind.u8.wrap (wrap64 (48 + (Int.tmod x0 (10 : Int))))] : List Int)]) ?_ (fun K3111 => ?_)
   ·rintro v3100 w3112 HM
    replace HM : Mem w [] w3112 [own kU8 5 v3100 ([IntKind.u8.wrap (wrap64 (48 + (Int.tmod x0 (10 : Int))))] : List Int)] := HM
    have hS := Mem.suf (M := [own kU8 5 v3100 ([IntKind.u8.wrap (wrap64 (48 + (Int.tmod x0 (10 : Int))))] : List Int)]) HM
    refine drw_any [8] (by kernel_rfl) rfl (.cons ?_ .nil)
    refine br_does (l' := #[true, true, true, true, true, true, true, true, true, false, false]) rfl (guard_none rfl) rfl rfl (by kernel_rfl) (does_ex' (ex_bstr (e := 5) rfl rfl Tryz.underlying156 Tryz.underlying5 Tryz.underlying9 (HM.own_rd 0 rfl))) ?_
    rintro _ _ ⟨rfl, rfl⟩
    refine ⟨hS, ?_⟩
    exact drw_sub (K3109 v3100 _ HM) (Sub.cons rfl (Sub.cons rfl (Sub.cons rfl Sub.nil)))
   refine dt 0 #[true, false, false, false, false, false, false, false, false, false, false] rfl rfl rfl rfl (by kernel_rfl) (ex_move rfl rfl) hS ?_
   refine dt 1 #[true, true, false, false, false, false, false, false, false, false, false] rfl rfl rfl rfl (by kernel_rfl) (ex_quok rfl rfl rfl e3096) hS ?_
   refine dt 3 #[true, true, false, true, false, false, false, false, false, false, false] rfl rfl rfl rfl (by kernel_rfl) (ex_move rfl rfl) hS ?_
   refine dt 4 #[true, true, false, true, true, false, false, false, false, false, false] rfl rfl rfl rfl (by kernel_rfl) (ex_remk rfl rfl rfl e3097) hS ?_
   refine dt 5 #[true, true, false, true, true, true, false, false, false, false, false] rfl rfl rfl rfl (by kernel_rfl) (ex_add rfl rfl rfl) hS ?_
   refine dt 6 #[true, true, false, true, true, true, true, false, false, false, false] rfl rfl rfl rfl (by kernel_rfl) (ex_conv rfl rfl (by rw [Tryz.underlying2]; rfl) Tryz.underlying5) hS ?_
   refine drw_any [2, 7] (by kernel_rfl) rfl (.cons ?_ (.cons ?_ .nil))
   ·skip
    refine br_does (l' := #[true, true, true, true, true, true, true, false, false, false, false]) rfl (guard_none rfl) rfl rfl (by kernel_rfl) (does_callk rfl callok86 rfl (ih (IntKind.i64.wrap (Int.tdiv x0 (10 : Int))) h3099)) ?_
    rintro _ w3113 ⟨rfl, hn⟩
    replace HM : Mem w [] w3113 [] := HM.call hn
    have hS := Mem.suf (M := []) HM
    refine ⟨hS, ?_⟩
    refine drw_any [7] (by kernel_rfl) rfl (.cons ?_ .nil)
    refine br_does (l' := #[true, true, true, true, true, true, true, true, false, false, false]) rfl (guard_none rfl) rfl rfl (by kernel_rfl) (does_lit (e := 5) (cs := [.int .u8 (IntKind.u8.wrap (wrap64 (48 + (Int.tmod x0 (10 : Int)))))]) (xs := ([IntKind.u8.wrap (wrap64 (48 + (Int.tmod x0 (10 : Int))))] : List Int)) kU8 rfl rfl (fun _ => by kernel_rfl) rfl rfl (fun _ _ h => by have h' : _ = [] := h; subst h'; exact (Elems.cons (d := kU8) (x := IntKind.u8.wrap (wrap64 (48 + (Int.tmod x0 (10 : Int))))) (f := []) ⟨rfl, rfl⟩ .nil)) HM.emp) ?_
    rintro v3100 w3114 HM
    have hS := Mem.suf (M := [own kU8 5 v3100 ([IntKind.u8.wrap (wrap64 (48 + (Int.tmod x0 (10 : Int))))] : List Int)]) HM
    refine ⟨hS, ?_⟩
    exact drw_sub (K3111 v3100 _ HM) (Sub.cons rfl (Sub.cons rfl (Sub.cons rfl Sub.nil)))
   ·skip
    refine br_does (l' := #[true, true, false, true, true, true, true, true, false, false, false]) rfl (guard_none rfl) rfl rfl (by kernel_rfl) (does_lit (e := 5) (cs := [.int .u8 (IntKind.u8.wrap (wrap64 (48 + (Int.tmod x0 (10 : Int)))))]) (xs := ([IntKind.u8.wrap (wrap64 (48 + (Int.tmod x0 (10 : Int))))] : List Int)) kU8 rfl rfl (fun _ => by kernel_rfl) rfl rfl (fun _ _ h => by have h' : _ = [] := h; subst h'; exact (Elems.cons (d := kU8) (x := IntKind.u8.wrap (wrap64 (48 + (Int.tmod x0 (10 : Int))))) (f := []) ⟨rfl, rfl⟩ .nil)) HM.emp) ?_
    rintro v3100 w3115 HM
    have hS := Mem.suf (M := [own kU8 5 v3100 ([IntKind.u8.wrap (wrap64 (48 + (Int.tmod x0 (10 : Int))))] : List Int)]) HM
    refine ⟨hS, ?_⟩
    refine drw_any [2, 8] (by kernel_rfl) rfl (.cons ?_ (.cons ?_ .nil))
    ·skip
     refine br_does (l' := #[true, true, true, true, true, true, true, true, false, false, false]) rfl (guard_none rfl) rfl rfl (by kernel_rfl) (does_callk rfl callok86 rfl (ih (IntKind.i64.wrap (Int.tdiv x0 (10 : Int))) h3099)) ?_
     rintro _ w3116 ⟨rfl, hn⟩
     replace HM : Mem w [] w3116 [own kU8 5 v3100 ([IntKind.u8.wrap (wrap64 (48 + (Int.tmod x0 (10 : Int))))] : List Int)] := HM.call hn
     have hS := Mem.suf (M := [own kU8 5 v3100 ([IntKind.u8.wrap (wrap64 (48 + (Int.tmod x0 (10 : Int))))] : List Int)]) HM
     refine ⟨hS, ?_⟩
     exact drw_sub (K3111 v3100 _ HM) (Sub.cons rfl (Sub.cons rfl (Sub.cons rfl Sub.nil)))
    ·skip
     refine br_does (l' := #[true, true, false, true, true, true, true, true, true, false, false]) rfl (guard_none rfl) rfl rfl (by kernel_rfl) (does_ex' (ex_bstr (e := 5) rfl rfl Tryz.underlying156 Tryz.underlying5 Tryz.underlying9 (HM.own_rd 0 rfl))) ?_
     rintro _ _ ⟨rfl, rfl⟩
     refine ⟨hS, ?_⟩
     refine drw_any [2] (by kernel_rfl) rfl (.cons ?_ .nil)
     refine br_does (l' := #[true, true, true, true, true, true, true, true, true, false, false]) rfl (guard_none rfl) rfl rfl (by kernel_rfl) (does_callk rfl callok86 rfl (ih (IntKind.i64.wrap (Int.tdiv x0 (10 : Int))) h3099)) ?_
     rintro _ w3117 ⟨rfl, hn⟩
     replace HM : Mem w [] w3117 [own kU8 5 v3100 ([IntKind.u8.wrap (wrap64 (48 + (Int.tmod x0 (10 : Int))))] : List Int)] := HM.call hn
     have hS := Mem.suf (M := [own kU8 5 v3100 ([IntKind.u8.wrap (wrap64 (48 + (Int.tmod x0 (10 : Int))))] : List Int)]) HM
     refine ⟨hS, ?_⟩
     exact drw_sub (K3109 v3100 _ HM) (Sub.cons rfl (Sub.cons rfl (Sub.cons rfl Sub.nil)))
  ·rintro _ w3118 ⟨rfl, HM⟩
   refine at_then ?_
   refine run_ret ?_
   have hR := Option.some.inj H
   subst hR
   exact at_ret1 rfl rfl ⟨_, rfl, rfl, HM⟩
theorem spec_l2Digits.calls {k : Nat} {x0 : Int}  {w : World}  {r : ByteArray} (H : spec_l2Digits.f k x0 = some r) :
  Calls Tryz.prog 86 ([.int .i64 x0] : List Value).toArray w (fun e w_ => ∃ v, e = .returned v ∧ v = (.string r) ∧ Mem w [] w_ []) := spec_l2Digits.calls_all k x0  H

def spec_l2Text.l0 (x0 : Rule) : Nat → ByteArray → Int → Option ByteArray
 | 0, _, _ => none
 | k + 1, a3284, a3285 => (bif (decide (a3285 < (x0.fKeys.length : Int))) then (chk (leB (a3284.size + (⟨#[44]⟩ : ByteArray).size) 9223372036854775807) (chk (idxOk a3285 x0.fKeys.length) ((spec_l2Digits.f k (gt x0.fKeys a3285)).bind fun t3299 => (chk (leB ((a3284 ++ (⟨#[44]⟩ : ByteArray)).size + t3299.size) 9223372036854775807) (spec_l2Text.l0 x0 k ((a3284 ++ (⟨#[44]⟩ : ByteArray)) ++ t3299) (wrap64 (a3285 + 1))))))) else some a3284)
theorem spec_l2Text.l0_z (x0 : Rule) (a3284 : ByteArray) (a3285 : Int) : spec_l2Text.l0 x0 0 a3284 a3285 = none := rfl
theorem spec_l2Text.l0_s (x0 : Rule) (k : Nat) (a3284 : ByteArray) (a3285 : Int) : spec_l2Text.l0 x0 (k + 1) a3284 a3285 = (bif (decide (a3285 < (x0.fKeys.length : Int))) then (chk (leB (a3284.size + (⟨#[44]⟩ : ByteArray).size) 9223372036854775807) (chk (idxOk a3285 x0.fKeys.length) ((spec_l2Digits.f k (gt x0.fKeys a3285)).bind fun t3299 => (chk (leB ((a3284 ++ (⟨#[44]⟩ : ByteArray)).size + t3299.size) 9223372036854775807) (spec_l2Text.l0 x0 k ((a3284 ++ (⟨#[44]⟩ : ByteArray)) ++ t3299) (wrap64 (a3285 + 1))))))) else some a3284) := rfl
def spec_l2Text.f (k : Nat) (x0 : Rule) : Option ByteArray := (chk (idxOk (0 : Int) x0.fKeys.length) ((spec_l2Digits.f k x0.fNeed).bind fun t3243 => (chk (leB (t3243.size + (⟨#[32, 111, 102, 32]⟩ : ByteArray).size) 9223372036854775807) ((spec_l2Digits.f k (gt x0.fKeys (0 : Int))).bind fun t3246 => (chk (leB ((t3243 ++ (⟨#[32, 111, 102, 32]⟩ : ByteArray)).size + t3246.size) 9223372036854775807) ((spec_l2Text.l0 x0 k ((t3243 ++ (⟨#[32, 111, 102, 32]⟩ : ByteArray)) ++ t3246) 1).bind (fun a3274 => (bif (x0.fAfter != 0) then (chk (leB (a3274.size + (⟨#[32, 97, 102, 116, 101, 114, 32]⟩ : ByteArray).size) 9223372036854775807) ((spec_l2Digits.f k x0.fAfter).bind fun t3306 => (chk (leB ((a3274 ++ (⟨#[32, 97, 102, 116, 101, 114, 32]⟩ : ByteArray)).size + t3306.size) 9223372036854775807) (some ((a3274 ++ (⟨#[32, 97, 102, 116, 101, 114, 32]⟩ : ByteArray)) ++ t3306))))) else some a3274))))))))
theorem spec_l2Text.calls {k : Nat} {x0 : Rule} {b0 f0 : Nat} {p0_0 : Value} {w : World} (hc0 : CellsAt w b0 f0 [p0_0, .int .i64 x0.fNeed, .int .i64 x0.fAfter]) (hp0_0 : RdS kInt w p0_0 x0.fKeys) {r : ByteArray} (H : spec_l2Text.f k x0 = some r) :
  Calls Tryz.prog 88 ([.pointer (some ⟨b0, f0, none⟩)] : List Value).toArray w (fun e w_ => ∃ v, e = .returned v ∧ v = (.string r) ∧ Mem w [] w_ []) := by
 have HM := Mem.start w
 refine calls_run (N := 53) Tryz.func88 rfl rfl rfl rfl ?_
 unfold spec_l2Text.f at H
 refine run_seq ?_
 refine run_region rfl ?_
 refine ox rfl rfl rfl rfl (ex_assign rfl rfl) ?_
 refine ops_nil (at_then (run_seq ?_))
 obtain ⟨e3241, H⟩ := chk_some H
 obtain ⟨t3243, h3244, H⟩ := bind_some H
 obtain ⟨e3245, H⟩ := chk_some H
 obtain ⟨t3246, h3247, H⟩ := bind_some H
 obtain ⟨e3248, H⟩ := chk_some H
 refine run_drawf (fun w_ => Mem w [] w_ []) [(0, true), (1, true), (2, true), (3, true), (6, true), (7, true), (8, true), (9, true), (10, true), (11, true), (4, false), (5, true), (12, false), (13, true), (14, true)] mixed rfl rfl (by kernel_rfl) ?_
 replace HM := HM.grow (fr_drew _)
 have hS := Mem.suf (M := []) HM
 refine dp rfl rfl rfl rfl (ex_move rfl rfl) hS ?_
 refine dp rfl rfl rfl rfl (ex_nilCheck rfl rfl) hS ?_
 refine dp rfl rfl rfl rfl (ex_fieldAddr (off' := f0 + 1) rfl rfl Tryz.underlying82 rfl tsz2 rfl) hS ?_
 refine drwp_take rfl (guard_none rfl) rfl rfl (fun w_ hS_ => (ex_load1 rfl rfl Tryz.underlying2 rfl ((hS_.at_ hc0) 1 _ rfl))) hS ?_
 refine dp rfl rfl rfl rfl (ex_move rfl rfl) hS ?_
 refine dp rfl rfl rfl rfl (ex_nilCheck rfl rfl) hS ?_
 refine dp rfl rfl rfl rfl (ex_fieldAddr (off' := f0) rfl rfl Tryz.underlying82 rfl tsz58 rfl) hS ?_
 refine drwp_take rfl (guard_none rfl) rfl rfl (fun w_ hS_ => (ex_load1 rfl rfl Tryz.underlying58 rfl ((hS_.at_ hc0) 0 _ rfl))) hS ?_
 have hc3242 : CellsAt _ (sb p0_0) (so p0_0 + ((0 : Int)).toNat * 1) [(.int .i64 (gt x0.fKeys (0 : Int)))] := rd_plain hp0_0 e3241
 refine dp rfl rfl rfl rfl (ex_indexAddr (d := kInt) rfl rfl rfl Tryz.underlying58 tsz2 hp0_0 (idx_lo e3241) (idx_hi e3241)) hS ?_
 refine drwp_take rfl (guard_none rfl) rfl rfl (fun w_ hS_ => (ex_load1 rfl rfl Tryz.underlying2 rfl ((hS_.at_ hc3242) 0 _ rfl))) hS ?_
 refine drwp_one rfl (guard_none rfl) rfl rfl (does_callk rfl callok86 rfl (spec_l2Digits.calls (x0 := x0.fNeed) h3244)) ?_
 rintro _ w3249 ⟨rfl, hn⟩
 replace HM : Mem w [] w3249 [] := HM.call hn
 have hS := Mem.suf (M := []) HM
 refine ⟨hS, ?_⟩
 refine dp rfl rfl rfl rfl (ex_sadd rfl rfl rfl (leB_le e3245)) hS ?_
 refine drwp_one rfl (guard_none rfl) rfl rfl (does_callk rfl callok86 rfl (spec_l2Digits.calls (x0 := (gt x0.fKeys (0 : Int))) h3247)) ?_
 rintro _ w3250 ⟨rfl, hn⟩
 replace HM : Mem w [] w3250 [] := HM.call hn
 have hS := Mem.suf (M := []) HM
 refine ⟨hS, ?_⟩
 refine dp rfl rfl rfl rfl (ex_sadd rfl rfl rfl (leB_le e3248)) hS ?_
 refine dp rfl rfl rfl rfl (ex_assign rfl rfl) hS ?_
 refine drwp_done ?_
 refine at_then ?_
 obtain ⟨o3275, ho3276, H⟩ := bind_some H
 refine run_mid (fun ρ_ w_ => ∃ a3274 : ByteArray, a3274 = o3275 ∧ ρ_ = [(0, .pointer (some ⟨b0, f0, none⟩)), (3, .string a3274)] ∧ Mem w [] w_ []) ?_ ?_
 ·clear H
  refine run_seq ?_
  refine run_region rfl ?_
  refine ox rfl rfl rfl rfl (ex_assign rfl rfl) ?_
  refine ops_nil (at_then ?_)
  refine run_block ?_
  refine run_loop (fun k_ ρ_ w_ => ∃ a3284 : ByteArray, ∃ a3285 : Int, spec_l2Text.l0 x0 k_ a3284 a3285 = some o3275 ∧ ρ_ = [(0, .pointer (some ⟨b0, f0, none⟩)), (3, .string a3284), (4, .int .i64 a3285)] ∧ Mem w [] w_ []) k (ρ1 := [(0, .pointer (some ⟨b0, f0, none⟩)), (3, .string ((t3243 ++ (⟨#[32, 111, 102, 32]⟩ : ByteArray)) ++ t3246)), (4, .int .i64 1)]) ⟨_, _, ho3276, rfl, HM⟩ (Sub.cons rfl (Sub.cons rfl (Sub.cons rfl Sub.nil))) ?_
  clear HM ho3276
  rintro k3293 _ w3294 ⟨a3284, a3285, ho3276, rfl, HM⟩
  obtain _ | k3293 := k3293
  ·exact nomatch ((spec_l2Text.l0_z x0 a3284 a3285).symm.trans ho3276)
  replace ho3276 := (spec_l2Text.l0_s x0 k3293 a3284 a3285).symm.trans ho3276
  refine run_seq ?_
  refine run_seq ?_
  refine run_region rfl ?_
  refine ox rfl rfl rfl rfl (ex_move rfl rfl) ?_
  refine ox rfl rfl rfl rfl (ex_move rfl rfl) ?_
  refine ox rfl rfl rfl rfl (ex_nilCheck rfl rfl) ?_
  refine ox rfl rfl rfl rfl (ex_fieldAddr (off' := f0) rfl rfl Tryz.underlying82 rfl tsz58 rfl) ?_
  refine ox rfl rfl rfl rfl (ex_load1 rfl rfl Tryz.underlying58 rfl ((HM.at_ hc0) 0 _ rfl)) ?_
  refine ox rfl rfl rfl rfl (ex_len (d := kInt) (xs := x0.fKeys) rfl rfl Tryz.underlying58 hp0_0) ?_
  refine ox rfl rfl rfl rfl (ex_lss rfl rfl rfl) ?_
  refine ops_nil (at_then ?_)
  refine run_cond (b := (decide (a3285 < (x0.fKeys.length : Int)))) rfl (fun hb3295 => ?_) (fun hb3295 => ?_)
  ·replace ho3276 := cond_t hb3295 ho3276
   refine run_skip ?_
   refine at_then ?_
   refine run_seq ?_
   refine run_block ?_
   obtain ⟨e3296, ho3276⟩ := chk_some ho3276
   obtain ⟨e3297, ho3276⟩ := chk_some ho3276
   obtain ⟨t3299, h3300, ho3276⟩ := bind_some ho3276
   obtain ⟨e3301, ho3276⟩ := chk_some ho3276
   refine run_region rfl ?_
   refine ox rfl rfl rfl rfl (ex_move rfl rfl) ?_
   refine ox rfl rfl rfl rfl (ex_sadd rfl rfl rfl (leB_le e3296)) ?_
   refine ox rfl rfl rfl rfl (ex_move rfl rfl) ?_
   refine ox rfl rfl rfl rfl (ex_nilCheck rfl rfl) ?_
   refine ox rfl rfl rfl rfl (ex_fieldAddr (off' := f0) rfl rfl Tryz.underlying82 rfl tsz58 rfl) ?_
   refine ox rfl rfl rfl rfl (ex_load1 rfl rfl Tryz.underlying58 rfl ((HM.at_ hc0) 0 _ rfl)) ?_
   refine ox rfl rfl rfl rfl (ex_move rfl rfl) ?_
   have hc3298 : CellsAt _ (sb p0_0) (so p0_0 + (a3285).toNat * 1) [(.int .i64 (gt x0.fKeys a3285))] := rd_plain hp0_0 e3297
   refine ox rfl rfl rfl rfl (ex_indexAddr (d := kInt) rfl rfl rfl Tryz.underlying58 tsz2 hp0_0 (idx_lo e3297) (idx_hi e3297)) ?_
   refine ox rfl rfl rfl rfl (ex_load1 rfl rfl Tryz.underlying2 rfl ((HM.at_ hc3298) 0 _ rfl)) ?_
   refine od rfl rfl rfl rfl (does_callk rfl callok86 rfl (spec_l2Digits.calls (x0 := (gt x0.fKeys a3285)) h3300)) ?_
   rintro _ w3302 ⟨rfl, hn⟩
   replace HM : Mem w [] w3302 [] := HM.call hn
   refine ox rfl rfl rfl rfl (ex_sadd rfl rfl rfl (leB_le e3301)) ?_
   refine ox rfl rfl rfl rfl (ex_assign rfl rfl) ?_
   refine ops_nil ?_
   refine at_block ?_
   refine at_then ?_
   refine run_region rfl ?_
   refine ox rfl rfl rfl rfl (ex_move rfl rfl) ?_
   refine ox rfl rfl rfl rfl (ex_add rfl rfl rfl) ?_
   refine ox rfl rfl rfl rfl (ex_assign rfl rfl) ?_
   refine ops_nil ?_
   exact at_again k3293 (ρ1 := [(0, .pointer (some ⟨b0, f0, none⟩)), (3, .string ((a3284 ++ (⟨#[44]⟩ : ByteArray)) ++ t3299)), (4, .int .i64 (wrap64 (a3285 + 1)))]) (Nat.lt_succ_self _) ⟨_, _, ho3276, rfl, HM⟩ (Sub.cons rfl (Sub.cons rfl (Sub.cons rfl Sub.nil)))
  ·replace ho3276 := cond_f hb3295 ho3276
   refine run_exit ?_
   refine at_then_exit ?_
   refine at_then_exit ?_
   refine at_block_exit ?_
   exact at_mid (ρ' := [(0, .pointer (some ⟨b0, f0, none⟩)), (3, .string a3284)]) ⟨_, (Option.some.inj ho3276), rfl, HM⟩ (Sub.cons rfl (Sub.cons rfl Sub.nil))
 ·rintro _ w3303 ⟨a3274, rfl, rfl, HM⟩
  refine run_seq ?_
  refine run_seq ?_
  refine run_region rfl ?_
  refine ox rfl rfl rfl rfl (ex_move rfl rfl) ?_
  refine ox rfl rfl rfl rfl (ex_nilCheck rfl rfl) ?_
  refine ox rfl rfl rfl rfl (ex_fieldAddr (off' := f0 + 2) rfl rfl Tryz.underlying82 rfl tsz2 rfl) ?_
  refine ox rfl rfl rfl rfl (ex_load1 rfl rfl Tryz.underlying2 rfl ((HM.at_ hc0) 2 _ rfl)) ?_
  refine ox rfl rfl rfl rfl (ex_neq rfl rfl rfl) ?_
  refine ops_nil (at_then ?_)
  refine run_cond (b := (x0.fAfter != 0)) rfl (fun hb3304 => ?_) (fun hb3304 => ?_)
  ·replace H := cond_t hb3304 H
   obtain ⟨e3305, H⟩ := chk_some H
   obtain ⟨t3306, h3307, H⟩ := bind_some H
   obtain ⟨e3308, H⟩ := chk_some H
   refine run_region rfl ?_
   refine ox rfl rfl rfl rfl (ex_move rfl rfl) ?_
   refine ox rfl rfl rfl rfl (ex_sadd rfl rfl rfl (leB_le e3305)) ?_
   refine ox rfl rfl rfl rfl (ex_move rfl rfl) ?_
   refine ox rfl rfl rfl rfl (ex_nilCheck rfl rfl) ?_
   refine ox rfl rfl rfl rfl (ex_fieldAddr (off' := f0 + 2) rfl rfl Tryz.underlying82 rfl tsz2 rfl) ?_
   refine ox rfl rfl rfl rfl (ex_load1 rfl rfl Tryz.underlying2 rfl ((HM.at_ hc0) 2 _ rfl)) ?_
   refine od rfl rfl rfl rfl (does_callk rfl callok86 rfl (spec_l2Digits.calls (x0 := x0.fAfter) h3307)) ?_
   rintro _ w3309 ⟨rfl, hn⟩
   replace HM : Mem w [] w3309 [] := HM.call hn
   refine ox rfl rfl rfl rfl (ex_sadd rfl rfl rfl (leB_le e3308)) ?_
   refine ox rfl rfl rfl rfl (ex_assign rfl rfl) ?_
   refine ops_nil (at_then (run_seq ?_))
   refine run_region rfl ?_
   refine ox rfl rfl rfl rfl (ex_move rfl rfl) ?_
   refine ox rfl rfl rfl rfl (ex_assign rfl rfl) ?_
   refine ops_nil (at_then ?_)
   refine run_ret ?_
   have hR := Option.some.inj H
   subst hR
   exact at_ret1 rfl rfl ⟨_, rfl, rfl, HM⟩
  ·replace H := cond_f hb3304 H
   refine run_skip ?_
   refine at_then ?_
   refine run_seq ?_
   refine run_region rfl ?_
   refine ox rfl rfl rfl rfl (ex_move rfl rfl) ?_
   refine ox rfl rfl rfl rfl (ex_assign rfl rfl) ?_
   refine ops_nil (at_then ?_)
   refine run_ret ?_
   have hR := Option.some.inj H
   subst hR
   exact at_ret1 rfl rfl ⟨_, rfl, rfl, HM⟩

def spec_l3Swap.l0 (x1 : Int) (x2 : Int) : Nat → (List Int) → Int → Option ((List Int))
 | 0, _, _ => none
 | k + 1, a3364, a3366 => (bif (decide (a3366 < (a3364.length : Int))) then (chk (idxOk a3366 a3364.length) (bif ((gt a3364 a3366) == x1) then (chk (idxOk a3366 a3364.length) (spec_l3Swap.l0 x1 x2 k (a3364.set (a3366).toNat x2) (wrap64 (a3366 + 1)))) else spec_l3Swap.l0 x1 x2 k a3364 (wrap64 (a3366 + 1)))) else some a3364)
theorem spec_l3Swap.l0_z (x1 : Int) (x2 : Int) (a3364 : List Int) (a3366 : Int) : spec_l3Swap.l0 x1 x2 0 a3364 a3366 = none := rfl
theorem spec_l3Swap.l0_s (x1 : Int) (x2 : Int) (k : Nat) (a3364 : List Int) (a3366 : Int) : spec_l3Swap.l0 x1 x2 (k + 1) a3364 a3366 = (bif (decide (a3366 < (a3364.length : Int))) then (chk (idxOk a3366 a3364.length) (bif ((gt a3364 a3366) == x1) then (chk (idxOk a3366 a3364.length) (spec_l3Swap.l0 x1 x2 k (a3364.set (a3366).toNat x2) (wrap64 (a3366 + 1)))) else spec_l3Swap.l0 x1 x2 k a3364 (wrap64 (a3366 + 1)))) else some a3364) := rfl
def spec_l3Swap.f (k : Nat) (x0 : ByteArray) (x1 : Int) (x2 : Int) : Option ByteArray := ((spec_l3Swap.l0 x1 x2 k (strNums x0) 0).bind (fun a3355 => some (strOfNums a3355)))
theorem spec_l3Swap.calls {k : Nat} {x0 : ByteArray} {x1 : Int} {x2 : Int}  {w : World}  {r : ByteArray} (H : spec_l3Swap.f k x0 x1 x2 = some r) :
  Calls Tryz.prog 87 ([.string x0, .int .u8 x1, .int .u8 x2] : List Value).toArray w (fun e w_ => ∃ v, e = .returned v ∧ v = (.string r) ∧ Mem w [] w_ []) := by
 have HM := Mem.start w
 refine calls_run (N := 29) Tryz.func87 rfl rfl rfl rfl ?_
 unfold spec_l3Swap.f at H
 refine run_seq ?_
 refine run_region rfl ?_
 refine ox rfl rfl rfl rfl (ex_assign rfl rfl) ?_
 refine ops_nil (at_then (run_seq ?_))
 refine run_region rfl ?_
 refine ox rfl rfl rfl rfl (ex_move rfl rfl) ?_
 refine od rfl rfl rfl rfl (does_sbytes (e := 5) rfl rfl Tryz.underlying9 Tryz.underlying156 Tryz.underlying5 HM) ?_
 rintro v3335 w3337 HM
 refine ox rfl rfl rfl rfl (ex_assign rfl rfl) ?_
 refine ops_nil (at_then ?_)
 obtain ⟨o3357, ho3358, H⟩ := bind_some H
 refine run_mid (fun ρ_ w_ => ∃ v3354 : Value, ∃ a3355 : List Int, a3355 = o3357 ∧ ρ_ = [(7, v3354)] ∧ Mem w [] w_ [brow 5 v3354 a3355]) ?_ ?_
 ·clear H
  refine run_seq ?_
  refine run_region rfl ?_
  refine ox rfl rfl rfl rfl (ex_assign rfl rfl) ?_
  refine ops_nil (at_then ?_)
  refine run_block ?_
  refine run_loop (fun k_ ρ_ w_ => ∃ v3363 : Value, ∃ a3364 : List Int, ∃ a3366 : Int, spec_l3Swap.l0 x1 x2 k_ a3364 a3366 = some o3357 ∧ ρ_ = [(1, .int .u8 x1), (2, .int .u8 x2), (7, v3363), (8, .int .i64 a3366)] ∧ Mem w [] w_ [brow 5 v3363 a3364]) k (ρ1 := [(1, .int .u8 x1), (2, .int .u8 x2), (7, v3335), (8, .int .i64 0)]) ⟨_, _, _, ho3358, rfl, HM⟩ (Sub.cons rfl (Sub.cons rfl (Sub.cons rfl (Sub.cons rfl Sub.nil)))) ?_
  clear HM ho3358
  rintro k3371 _ w3372 ⟨v3363, a3364, a3366, ho3358, rfl, HM⟩
  obtain _ | k3371 := k3371
  ·exact nomatch ((spec_l3Swap.l0_z x1 x2 a3364 a3366).symm.trans ho3358)
  replace ho3358 := (spec_l3Swap.l0_s x1 x2 k3371 a3364 a3366).symm.trans ho3358
  refine run_seq ?_
  refine run_seq ?_
  refine run_region rfl ?_
  refine ox rfl rfl rfl rfl (ex_move rfl rfl) ?_
  refine ox rfl rfl rfl rfl (ex_move rfl rfl) ?_
  refine ox rfl rfl rfl rfl (ex_len (d := kU8) (xs := a3364) rfl rfl Tryz.underlying156 (HM.brow_rd (hl := fun _ => rfl) (h1 := fun _ => onesC rfl onesN) 0 rfl)) ?_
  refine ox rfl rfl rfl rfl (ex_lss rfl rfl rfl) ?_
  refine ops_nil (at_then ?_)
  refine run_cond (b := (decide (a3366 < (a3364.length : Int)))) rfl (fun hb3373 => ?_) (fun hb3373 => ?_)
  ·replace ho3358 := cond_t hb3373 ho3358
   refine run_skip ?_
   refine at_then ?_
   refine run_seq ?_
   refine run_block ?_
   refine run_seq ?_
   obtain ⟨e3374, ho3358⟩ := chk_some ho3358
   refine run_region rfl ?_
   refine ox rfl rfl rfl rfl (ex_move rfl rfl) ?_
   refine ox rfl rfl rfl rfl (ex_move rfl rfl) ?_
   refine ox rfl rfl rfl rfl (ex_indexAddr (d := kU8) rfl rfl rfl Tryz.underlying156 tsz5 (HM.brow_rd (hl := fun _ => rfl) (h1 := fun _ => onesC rfl onesN) 0 rfl) (idx_lo e3374) (idx_hi e3374)) ?_
   refine ox rfl rfl rfl rfl (ex_load1 rfl rfl Tryz.underlying5 rfl ((rd_plain (HM.brow_rd (hl := fun _ => rfl) (h1 := fun _ => onesC rfl onesN) 0 rfl) e3374) 0 _ rfl)) ?_
   refine ox rfl rfl rfl rfl (ex_move rfl rfl) ?_
   refine ox rfl rfl rfl rfl (ex_eql rfl rfl rfl) ?_
   refine ops_nil (at_then ?_)
   refine run_cond (b := ((gt a3364 a3366) == x1)) rfl (fun hb3375 => ?_) (fun hb3375 => ?_)
   ·replace ho3358 := cond_t hb3375 ho3358
    obtain ⟨e3376, ho3358⟩ := chk_some ho3358
    refine run_region rfl ?_
    refine ox rfl rfl rfl rfl (ex_move rfl rfl) ?_
    refine ox rfl rfl rfl rfl (ex_move rfl rfl) ?_
    refine ox rfl rfl rfl rfl (ex_move rfl rfl) ?_
    refine ox rfl rfl rfl rfl (ex_indexAddr (d := kU8) rfl rfl rfl Tryz.underlying156 tsz5 (HM.brow_rd (hl := fun _ => rfl) (h1 := fun _ => onesC rfl onesN) 0 rfl) (idx_lo e3376) (idx_hi e3376)) ?_
    refine odS rfl rfl rfl (does_setB rfl rfl rfl rfl tsz5 (idx_nat e3376) HM) ?_
    rintro w3377 HM
    refine ops_nil ?_
    refine at_block ?_
    refine at_then ?_
    refine run_region rfl ?_
    refine ox rfl rfl rfl rfl (ex_move rfl rfl) ?_
    refine ox rfl rfl rfl rfl (ex_add rfl rfl rfl) ?_
    refine ox rfl rfl rfl rfl (ex_assign rfl rfl) ?_
    refine ops_nil ?_
    exact at_again k3371 (ρ1 := [(1, .int .u8 x1), (2, .int .u8 x2), (7, v3363), (8, .int .i64 (wrap64 (a3366 + 1)))]) (Nat.lt_succ_self _) ⟨_, _, _, ho3358, rfl, HM⟩ (Sub.cons rfl (Sub.cons rfl (Sub.cons rfl (Sub.cons rfl Sub.nil))))
   ·replace ho3358 := cond_f hb3375 ho3358
    refine run_skip ?_
    refine at_block ?_
    refine at_then ?_
    refine run_region rfl ?_
    refine ox rfl rfl rfl rfl (ex_move rfl rfl) ?_
    refine ox rfl rfl rfl rfl (ex_add rfl rfl rfl) ?_
    refine ox rfl rfl rfl rfl (ex_assign rfl rfl) ?_
    refine ops_nil ?_
    exact at_again k3371 (ρ1 := [(1, .int .u8 x1), (2, .int .u8 x2), (7, v3363), (8, .int .i64 (wrap64 (a3366 + 1)))]) (Nat.lt_succ_self _) ⟨_, _, _, ho3358, rfl, HM⟩ (Sub.cons rfl (Sub.cons rfl (Sub.cons rfl (Sub.cons rfl Sub.nil))))
  ·replace ho3358 := cond_f hb3373 ho3358
   refine run_exit ?_
   refine at_then_exit ?_
   refine at_then_exit ?_
   refine at_block_exit ?_
   exact at_mid (ρ' := [(7, v3363)]) ⟨_, _, (Option.some.inj ho3358), rfl, HM⟩ (Sub.cons rfl Sub.nil)
 ·rintro _ w3378 ⟨v3354, a3355, rfl, rfl, HM⟩
  refine run_seq ?_
  refine run_region rfl ?_
  refine ox rfl rfl rfl rfl (ex_move rfl rfl) ?_
  refine ox rfl rfl rfl rfl (ex_bstr (e := 5) rfl rfl Tryz.underlying156 Tryz.underlying5 Tryz.underlying9 (HM.brow_rd (hl := fun _ => rfl) (h1 := fun _ => onesC rfl onesN) 0 rfl)) ?_
  refine ox rfl rfl rfl rfl (ex_assign rfl rfl) ?_
  refine ops_nil (at_then ?_)
  refine run_ret ?_
  replace HM := (HM.front 0 rfl rfl).drop
  have hR := Option.some.inj H
  subst hR
  exact at_ret1 rfl rfl ⟨_, rfl, rfl, HM⟩

def spec_l3Text.l0 (x0 : Tx) : Nat → ByteArray → Int → Option ByteArray
 | 0, _, _ => none
 | k + 1, a3524, a3525 => (bif (decide (a3525 < (x0.fIns.length : Int))) then ((bif (a3525 == 0) then some (⟨#[32]⟩ : ByteArray) else some (⟨#[43]⟩ : ByteArray)).bind (fun a3549 => (chk (leB (a3524.size + a3549.size) 9223372036854775807) (chk (idxOk a3525 x0.fIns.length) (chk (idxOk a3525 x0.fIns.length) ((spec_l2Digits.f k ((gt x0.fIns a3525).fTx)).bind fun t3559 => (chk (leB ((a3524 ++ a3549).size + t3559.size) 9223372036854775807) (chk (leB (((a3524 ++ a3549) ++ t3559).size + (⟨#[58]⟩ : ByteArray).size) 9223372036854775807) ((spec_l2Digits.f k ((gt x0.fIns a3525).fAt)).bind fun t3563 => (chk (leB ((((a3524 ++ a3549) ++ t3559) ++ (⟨#[58]⟩ : ByteArray)).size + t3563.size) 9223372036854775807) (spec_l3Text.l0 x0 k ((((a3524 ++ a3549) ++ t3559) ++ (⟨#[58]⟩ : ByteArray)) ++ t3563) (wrap64 (a3525 + 1))))))))))))) else some a3524)
theorem spec_l3Text.l0_z (x0 : Tx) (a3524 : ByteArray) (a3525 : Int) : spec_l3Text.l0 x0 0 a3524 a3525 = none := rfl
theorem spec_l3Text.l0_s (x0 : Tx) (k : Nat) (a3524 : ByteArray) (a3525 : Int) : spec_l3Text.l0 x0 (k + 1) a3524 a3525 = (bif (decide (a3525 < (x0.fIns.length : Int))) then ((bif (a3525 == 0) then some (⟨#[32]⟩ : ByteArray) else some (⟨#[43]⟩ : ByteArray)).bind (fun a3549 => (chk (leB (a3524.size + a3549.size) 9223372036854775807) (chk (idxOk a3525 x0.fIns.length) (chk (idxOk a3525 x0.fIns.length) ((spec_l2Digits.f k ((gt x0.fIns a3525).fTx)).bind fun t3559 => (chk (leB ((a3524 ++ a3549).size + t3559.size) 9223372036854775807) (chk (leB (((a3524 ++ a3549) ++ t3559).size + (⟨#[58]⟩ : ByteArray).size) 9223372036854775807) ((spec_l2Digits.f k ((gt x0.fIns a3525).fAt)).bind fun t3563 => (chk (leB ((((a3524 ++ a3549) ++ t3559) ++ (⟨#[58]⟩ : ByteArray)).size + t3563.size) 9223372036854775807) (spec_l3Text.l0 x0 k ((((a3524 ++ a3549) ++ t3559) ++ (⟨#[58]⟩ : ByteArray)) ++ t3563) (wrap64 (a3525 + 1))))))))))))) else some a3524) := rfl
def spec_l3Text.l1 (x0 : Tx) : Nat → ByteArray → Int → Option ByteArray
 | 0, _, _ => none
 | k + 1, a3650, a3651 => (bif (decide (a3651 < (x0.fOuts.length : Int))) then (chk (leB (a3650.size + (⟨#[32]⟩ : ByteArray).size) 9223372036854775807) (chk (idxOk a3651 x0.fOuts.length) (chk (idxOk a3651 x0.fOuts.length) ((spec_l2Digits.f k ((gt x0.fOuts a3651).fValue)).bind fun t3683 => (chk (leB ((a3650 ++ (⟨#[32]⟩ : ByteArray)).size + t3683.size) 9223372036854775807) (chk (leB (((a3650 ++ (⟨#[32]⟩ : ByteArray)) ++ t3683).size + (⟨#[61]⟩ : ByteArray).size) 9223372036854775807) ((spec_l2Text.f k ((gt x0.fOuts a3651).fRule)).bind fun t3687 => ((spec_l3Swap.f k t3687 32 95).bind fun t3689 => (chk (leB ((((a3650 ++ (⟨#[32]⟩ : ByteArray)) ++ t3683) ++ (⟨#[61]⟩ : ByteArray)).size + t3689.size) 9223372036854775807) (spec_l3Text.l1 x0 k ((((a3650 ++ (⟨#[32]⟩ : ByteArray)) ++ t3683) ++ (⟨#[61]⟩ : ByteArray)) ++ t3689) (wrap64 (a3651 + 1)))))))))))) else some a3650)
theorem spec_l3Text.l1_z (x0 : Tx) (a3650 : ByteArray) (a3651 : Int) : spec_l3Text.l1 x0 0 a3650 a3651 = none := rfl
theorem spec_l3Text.l1_s (x0 : Tx) (k : Nat) (a3650 : ByteArray) (a3651 : Int) : spec_l3Text.l1 x0 (k + 1) a3650 a3651 = (bif (decide (a3651 < (x0.fOuts.length : Int))) then (chk (leB (a3650.size + (⟨#[32]⟩ : ByteArray).size) 9223372036854775807) (chk (idxOk a3651 x0.fOuts.length) (chk (idxOk a3651 x0.fOuts.length) ((spec_l2Digits.f k ((gt x0.fOuts a3651).fValue)).bind fun t3683 => (chk (leB ((a3650 ++ (⟨#[32]⟩ : ByteArray)).size + t3683.size) 9223372036854775807) (chk (leB (((a3650 ++ (⟨#[32]⟩ : ByteArray)) ++ t3683).size + (⟨#[61]⟩ : ByteArray).size) 9223372036854775807) ((spec_l2Text.f k ((gt x0.fOuts a3651).fRule)).bind fun t3687 => ((spec_l3Swap.f k t3687 32 95).bind fun t3689 => (chk (leB ((((a3650 ++ (⟨#[32]⟩ : ByteArray)) ++ t3683) ++ (⟨#[61]⟩ : ByteArray)).size + t3689.size) 9223372036854775807) (spec_l3Text.l1 x0 k ((((a3650 ++ (⟨#[32]⟩ : ByteArray)) ++ t3683) ++ (⟨#[61]⟩ : ByteArray)) ++ t3689) (wrap64 (a3651 + 1)))))))))))) else some a3650) := rfl
def spec_l3Text.f (k : Nat) (x0 : Tx) : Option ByteArray := (chk (idxOk x0.fKind ([(⟨#[112, 97, 121]⟩ : ByteArray), (⟨#[106, 111, 105, 110, 32]⟩ : ByteArray), (⟨#[108, 101, 97, 118, 101, 32]⟩ : ByteArray)] : List ByteArray).length) ((bif (x0.fKind != 0) then ((spec_l2Digits.f k x0.fMember).bind fun t3442 => (chk (leB ((gt ([(⟨#[112, 97, 121]⟩ : ByteArray), (⟨#[106, 111, 105, 110, 32]⟩ : ByteArray), (⟨#[108, 101, 97, 118, 101, 32]⟩ : ByteArray)] : List ByteArray) x0.fKind).size + t3442.size) 9223372036854775807) (some ((gt ([(⟨#[112, 97, 121]⟩ : ByteArray), (⟨#[106, 111, 105, 110, 32]⟩ : ByteArray), (⟨#[108, 101, 97, 118, 101, 32]⟩ : ByteArray)] : List ByteArray) x0.fKind) ++ t3442)))) else some (gt ([(⟨#[112, 97, 121]⟩ : ByteArray), (⟨#[106, 111, 105, 110, 32]⟩ : ByteArray), (⟨#[108, 101, 97, 118, 101, 32]⟩ : ByteArray)] : List ByteArray) x0.fKind)).bind (fun a3438 => ((spec_l3Text.l0 x0 k a3438 0).bind (fun a3503 => ((spec_l3Text.l1 x0 k a3503 0).bind (fun a3628 => some a3628)))))))
theorem spec_l3Text.calls {k : Nat} {x0 : Tx} {b0 f0 : Nat} {p0_0 : Value} {p0_1 : Value} {w : World} (hc0 : CellsAt w b0 f0 [.int .i64 x0.fKind, .int .i64 x0.fMember, p0_0, p0_1]) (hp0_0 : RdS kRef w p0_0 x0.fIns) (hp0_1 : RdS kOut w p0_1 x0.fOuts) {r : ByteArray} (H : spec_l3Text.f k x0 = some r) :
  Calls Tryz.prog 52 ([.pointer (some ⟨b0, f0, none⟩)] : List Value).toArray w (fun e w_ => ∃ v, e = .returned v ∧ v = (.string r) ∧ Mem w [] w_ []) := by
 have HM := Mem.start w
 refine calls_run (N := 94) Tryz.func52 rfl rfl rfl rfl ?_
 unfold spec_l3Text.f at H
 refine run_seq ?_
 refine run_region rfl ?_
 refine ox rfl rfl rfl rfl (ex_assign rfl rfl) ?_
 refine ops_nil (at_then (run_seq ?_))
 obtain ⟨e3428, H⟩ := chk_some H
 refine run_region rfl ?_
 refine od rfl rfl rfl rfl (does_lit (e := 9) (cs := [.string (⟨#[112, 97, 121]⟩ : ByteArray), .string (⟨#[106, 111, 105, 110, 32]⟩ : ByteArray), .string (⟨#[108, 101, 97, 118, 101, 32]⟩ : ByteArray)]) (xs := ([(⟨#[112, 97, 121]⟩ : ByteArray), (⟨#[106, 111, 105, 110, 32]⟩ : ByteArray), (⟨#[108, 101, 97, 118, 101, 32]⟩ : ByteArray)] : List ByteArray)) kStr rfl rfl (fun _ => by kernel_rfl) rfl rfl (fun _ _ h => by have h' : _ = [] := h; subst h'; exact (Elems.cons (d := kStr) (x := (⟨#[112, 97, 121]⟩ : ByteArray)) (f := []) ⟨rfl, rfl⟩ (Elems.cons (d := kStr) (x := (⟨#[106, 111, 105, 110, 32]⟩ : ByteArray)) (f := []) ⟨rfl, rfl⟩ (Elems.cons (d := kStr) (x := (⟨#[108, 101, 97, 118, 101, 32]⟩ : ByteArray)) (f := []) ⟨rfl, rfl⟩ .nil)))) HM.emp) ?_
 rintro v3425 w3429 HM
 refine ox rfl rfl rfl rfl (ex_move rfl rfl) ?_
 refine ox rfl rfl rfl rfl (ex_nilCheck rfl rfl) ?_
 refine ox rfl rfl rfl rfl (ex_fieldAddr (off' := f0) rfl rfl Tryz.underlying46 rfl tsz2 rfl) ?_
 refine ox rfl rfl rfl rfl (ex_load1 rfl rfl Tryz.underlying2 rfl ((HM.at_ hc0) 0 _ rfl)) ?_
 refine ox rfl rfl rfl rfl (ex_indexAddr (d := kStr) rfl rfl rfl Tryz.underlying22 tsz9 (HM.own_rd 0 rfl) (idx_lo e3428) (idx_hi e3428)) ?_
 refine ox rfl rfl rfl rfl (ex_load1 rfl rfl Tryz.underlying9 rfl ((rd_plain (HM.own_rd 0 rfl) e3428) 0 _ rfl)) ?_
 refine ox rfl rfl rfl rfl (ex_assign rfl rfl) ?_
 refine ops_nil (at_then ?_)
 obtain ⟨o3439, ho3440, H⟩ := bind_some H
 refine run_mid (fun ρ_ w_ => ∃ a3438 : ByteArray, a3438 = o3439 ∧ ρ_ = [(0, .pointer (some ⟨b0, f0, none⟩)), (3, .string a3438)] ∧ Mem w [] w_ []) ?_ ?_
 ·clear H
  refine run_seq ?_
  refine run_region rfl ?_
  refine ox rfl rfl rfl rfl (ex_move rfl rfl) ?_
  refine ox rfl rfl rfl rfl (ex_nilCheck rfl rfl) ?_
  refine ox rfl rfl rfl rfl (ex_fieldAddr (off' := f0) rfl rfl Tryz.underlying46 rfl tsz2 rfl) ?_
  refine ox rfl rfl rfl rfl (ex_load1 rfl rfl Tryz.underlying2 rfl ((HM.at_ hc0) 0 _ rfl)) ?_
  refine ox rfl rfl rfl rfl (ex_neq rfl rfl rfl) ?_
  refine ops_nil (at_then ?_)
  refine run_cond (b := (x0.fKind != 0)) rfl (fun hb3441 => ?_) (fun hb3441 => ?_)
  ·replace ho3440 := cond_t hb3441 ho3440
   obtain ⟨t3442, h3443, ho3440⟩ := bind_some ho3440
   obtain ⟨e3444, ho3440⟩ := chk_some ho3440
   refine run_region rfl ?_
   refine ox rfl rfl rfl rfl (ex_move rfl rfl) ?_
   refine ox rfl rfl rfl rfl (ex_move rfl rfl) ?_
   refine ox rfl rfl rfl rfl (ex_nilCheck rfl rfl) ?_
   refine ox rfl rfl rfl rfl (ex_fieldAddr (off' := f0 + 1) rfl rfl Tryz.underlying46 rfl tsz2 rfl) ?_
   refine ox rfl rfl rfl rfl (ex_load1 rfl rfl Tryz.underlying2 rfl ((HM.at_ hc0) 1 _ rfl)) ?_
   refine od rfl rfl rfl rfl (does_callk rfl callok86 rfl (spec_l2Digits.calls (x0 := x0.fMember) h3443)) ?_
   rintro _ w3445 ⟨rfl, hn⟩
   replace HM : Mem w [] w3445 [own kStr 9 v3425 ([(⟨#[112, 97, 121]⟩ : ByteArray), (⟨#[106, 111, 105, 110, 32]⟩ : ByteArray), (⟨#[108, 101, 97, 118, 101, 32]⟩ : ByteArray)] : List ByteArray)] := HM.call hn
   refine ox rfl rfl rfl rfl (ex_sadd rfl rfl rfl (leB_le e3444)) ?_
   refine ox rfl rfl rfl rfl (ex_assign rfl rfl) ?_
   refine ops_nil ?_
   replace HM := (HM.front 0 rfl rfl).drop
   exact at_mid (ρ' := [(0, .pointer (some ⟨b0, f0, none⟩)), (3, .string ((gt ([(⟨#[112, 97, 121]⟩ : ByteArray), (⟨#[106, 111, 105, 110, 32]⟩ : ByteArray), (⟨#[108, 101, 97, 118, 101, 32]⟩ : ByteArray)] : List ByteArray) x0.fKind) ++ t3442))]) ⟨_, (Option.some.inj ho3440), rfl, HM⟩ (Sub.cons rfl (Sub.cons rfl Sub.nil))
  ·replace ho3440 := cond_f hb3441 ho3440
   refine run_skip ?_
   replace HM := (HM.front 0 rfl rfl).drop
   exact at_mid (ρ' := [(0, .pointer (some ⟨b0, f0, none⟩)), (3, .string (gt ([(⟨#[112, 97, 121]⟩ : ByteArray), (⟨#[106, 111, 105, 110, 32]⟩ : ByteArray), (⟨#[108, 101, 97, 118, 101, 32]⟩ : ByteArray)] : List ByteArray) x0.fKind))]) ⟨_, (Option.some.inj ho3440), rfl, HM⟩ (Sub.cons rfl (Sub.cons rfl Sub.nil))
 ·rintro _ w3446 ⟨a3438, rfl, rfl, HM⟩
  obtain ⟨o3504, ho3505, H⟩ := bind_some H
  refine run_mid (fun ρ_ w_ => ∃ a3503 : ByteArray, a3503 = o3504 ∧ ρ_ = [(0, .pointer (some ⟨b0, f0, none⟩)), (3, .string a3503)] ∧ Mem w [] w_ []) ?_ ?_
  ·clear H
   refine run_seq ?_
   refine run_region rfl ?_
   refine ox rfl rfl rfl rfl (ex_assign rfl rfl) ?_
   refine ops_nil (at_then ?_)
   refine run_block ?_
   refine run_loop (fun k_ ρ_ w_ => ∃ a3524 : ByteArray, ∃ a3525 : Int, spec_l3Text.l0 x0 k_ a3524 a3525 = some o3504 ∧ ρ_ = [(0, .pointer (some ⟨b0, f0, none⟩)), (3, .string a3524), (4, .int .i64 a3525)] ∧ Mem w [] w_ []) k (ρ1 := [(0, .pointer (some ⟨b0, f0, none⟩)), (3, .string a3438), (4, .int .i64 0)]) ⟨_, _, ho3505, rfl, HM⟩ (Sub.cons rfl (Sub.cons rfl (Sub.cons rfl Sub.nil))) ?_
   clear HM ho3505
   rintro k3544 _ w3545 ⟨a3524, a3525, ho3505, rfl, HM⟩
   obtain _ | k3544 := k3544
   ·exact nomatch ((spec_l3Text.l0_z x0 a3524 a3525).symm.trans ho3505)
   replace ho3505 := (spec_l3Text.l0_s x0 k3544 a3524 a3525).symm.trans ho3505
   refine run_seq ?_
   refine run_seq ?_
   refine run_region rfl ?_
   refine ox rfl rfl rfl rfl (ex_move rfl rfl) ?_
   refine ox rfl rfl rfl rfl (ex_move rfl rfl) ?_
   refine ox rfl rfl rfl rfl (ex_nilCheck rfl rfl) ?_
   refine ox rfl rfl rfl rfl (ex_fieldAddr (off' := f0 + 2) rfl rfl Tryz.underlying46 rfl tsz43 rfl) ?_
   refine ox rfl rfl rfl rfl (ex_load1 rfl rfl Tryz.underlying43 rfl ((HM.at_ hc0) 2 _ rfl)) ?_
   refine ox rfl rfl rfl rfl (ex_len (d := kRef) (xs := x0.fIns) rfl rfl Tryz.underlying43 hp0_0) ?_
   refine ox rfl rfl rfl rfl (ex_lss rfl rfl rfl) ?_
   refine ops_nil (at_then ?_)
   refine run_cond (b := (decide (a3525 < (x0.fIns.length : Int)))) rfl (fun hb3546 => ?_) (fun hb3546 => ?_)
   ·replace ho3505 := cond_t hb3546 ho3505
    refine run_skip ?_
    refine at_then ?_
    refine run_seq ?_
    refine run_block ?_
    refine run_seq ?_
    refine run_region rfl ?_
    refine ox rfl rfl rfl rfl (ex_assign rfl rfl) ?_
    refine ops_nil (at_then ?_)
    obtain ⟨o3550, ho3551, ho3505⟩ := bind_some ho3505
    refine run_mid (fun ρ_ w_ => ∃ a3549 : ByteArray, a3549 = o3550 ∧ ρ_ = [(0, .pointer (some ⟨b0, f0, none⟩)), (3, .string a3524), (4, .int .i64 a3525), (5, .string a3549)] ∧ Mem w [] w_ []) ?_ ?_
    ·clear ho3505
     refine run_seq ?_
     refine run_region rfl ?_
     refine ox rfl rfl rfl rfl (ex_move rfl rfl) ?_
     refine ox rfl rfl rfl rfl (ex_eql rfl rfl rfl) ?_
     refine ops_nil (at_then ?_)
     refine run_cond (b := (a3525 == 0)) rfl (fun hb3552 => ?_) (fun hb3552 => ?_)
     ·replace ho3551 := cond_t hb3552 ho3551
      refine run_region rfl ?_
      refine ox rfl rfl rfl rfl (ex_assign rfl rfl) ?_
      refine ops_nil ?_
      exact at_mid (ρ' := [(0, .pointer (some ⟨b0, f0, none⟩)), (3, .string a3524), (4, .int .i64 a3525), (5, .string (⟨#[32]⟩ : ByteArray))]) ⟨_, (Option.some.inj ho3551), rfl, HM⟩ (Sub.cons rfl (Sub.cons rfl (Sub.cons rfl (Sub.cons rfl Sub.nil))))
     ·replace ho3551 := cond_f hb3552 ho3551
      refine run_skip ?_
      exact at_mid (ρ' := [(0, .pointer (some ⟨b0, f0, none⟩)), (3, .string a3524), (4, .int .i64 a3525), (5, .string (⟨#[43]⟩ : ByteArray))]) ⟨_, (Option.some.inj ho3551), rfl, HM⟩ (Sub.cons rfl (Sub.cons rfl (Sub.cons rfl (Sub.cons rfl Sub.nil))))
    ·rintro _ w3553 ⟨a3549, rfl, rfl, HM⟩
     obtain ⟨e3554, ho3505⟩ := chk_some ho3505
     obtain ⟨e3555, ho3505⟩ := chk_some ho3505
     obtain ⟨e3557, ho3505⟩ := chk_some ho3505
     obtain ⟨t3559, h3560, ho3505⟩ := bind_some ho3505
     obtain ⟨e3561, ho3505⟩ := chk_some ho3505
     obtain ⟨e3562, ho3505⟩ := chk_some ho3505
     obtain ⟨t3563, h3564, ho3505⟩ := bind_some ho3505
     obtain ⟨e3565, ho3505⟩ := chk_some ho3505
     refine run_drawf (fun w_ => Mem w [] w_ []) [(0, true), (1, true), (2, true), (3, true), (4, true), (5, true), (6, true), (7, true), (8, true), (9, true), (10, true), (14, true), (15, true), (16, true), (17, true), (18, true), (19, true), (20, true), (21, true), (11, false), (12, true), (13, true), (22, false), (23, true), (24, true)] mixed rfl rfl (by kernel_rfl) ?_
     replace HM := HM.grow (fr_drew _)
     have hS := Mem.suf (M := []) HM
     refine dp rfl rfl rfl rfl (ex_move rfl rfl) hS ?_
     refine dp rfl rfl rfl rfl (ex_move rfl rfl) hS ?_
     refine dp rfl rfl rfl rfl (ex_sadd rfl rfl rfl (leB_le e3554)) hS ?_
     refine dp rfl rfl rfl rfl (ex_move rfl rfl) hS ?_
     refine dp rfl rfl rfl rfl (ex_nilCheck rfl rfl) hS ?_
     refine dp rfl rfl rfl rfl (ex_fieldAddr (off' := f0 + 2) rfl rfl Tryz.underlying46 rfl tsz43 rfl) hS ?_
     refine drwp_take rfl (guard_none rfl) rfl rfl (fun w_ hS_ => (ex_load1 rfl rfl Tryz.underlying43 rfl ((hS_.at_ hc0) 2 _ rfl))) hS ?_
     refine dp rfl rfl rfl rfl (ex_move rfl rfl) hS ?_
     have hc3556 : CellsAt _ (sb p0_0) (so p0_0 + (a3525).toNat * 2) [(.int .i64 ((gt x0.fIns a3525).fTx)), (.int .i64 ((gt x0.fIns a3525).fAt))] := rd_plain hp0_0 e3555
     refine dp rfl rfl rfl rfl (ex_indexAddr (d := kRef) rfl rfl rfl Tryz.underlying43 tsz81 hp0_0 (idx_lo e3555) (idx_hi e3555)) hS ?_
     refine dp rfl rfl rfl rfl (ex_fieldAddr (off' := so p0_0 + (a3525).toNat * 2) rfl rfl Tryz.underlying81 rfl tsz2 rfl) hS ?_
     refine drwp_take rfl (guard_none rfl) rfl rfl (fun w_ hS_ => (ex_load1 rfl rfl Tryz.underlying2 rfl ((hS_.at_ hc3556) 0 _ rfl))) hS ?_
     refine dp rfl rfl rfl rfl (ex_move rfl rfl) hS ?_
     refine dp rfl rfl rfl rfl (ex_nilCheck rfl rfl) hS ?_
     refine dp rfl rfl rfl rfl (ex_fieldAddr (off' := f0 + 2) rfl rfl Tryz.underlying46 rfl tsz43 rfl) hS ?_
     refine drwp_take rfl (guard_none rfl) rfl rfl (fun w_ hS_ => (ex_load1 rfl rfl Tryz.underlying43 rfl ((hS_.at_ hc0) 2 _ rfl))) hS ?_
     refine dp rfl rfl rfl rfl (ex_move rfl rfl) hS ?_
     have hc3558 : CellsAt _ (sb p0_0) (so p0_0 + (a3525).toNat * 2) [(.int .i64 ((gt x0.fIns a3525).fTx)), (.int .i64 ((gt x0.fIns a3525).fAt))] := rd_plain hp0_0 e3557
     refine dp rfl rfl rfl rfl (ex_indexAddr (d := kRef) rfl rfl rfl Tryz.underlying43 tsz81 hp0_0 (idx_lo e3557) (idx_hi e3557)) hS ?_
     refine dp rfl rfl rfl rfl (ex_fieldAddr (off' := so p0_0 + (a3525).toNat * 2 + 1) rfl rfl Tryz.underlying81 rfl tsz2 rfl) hS ?_
     refine drwp_take rfl (guard_none rfl) rfl rfl (fun w_ hS_ => (ex_load1 rfl rfl Tryz.underlying2 rfl ((hS_.at_ hc3558) 1 _ rfl))) hS ?_
     refine drwp_one rfl (guard_none rfl) rfl rfl (does_callk rfl callok86 rfl (spec_l2Digits.calls (x0 := (gt x0.fIns a3525).fTx) h3560)) ?_
     rintro _ w3566 ⟨rfl, hn⟩
     replace HM : Mem w [] w3566 [] := HM.call hn
     have hS := Mem.suf (M := []) HM
     refine ⟨hS, ?_⟩
     refine dp rfl rfl rfl rfl (ex_sadd rfl rfl rfl (leB_le e3561)) hS ?_
     refine dp rfl rfl rfl rfl (ex_sadd rfl rfl rfl (leB_le e3562)) hS ?_
     refine drwp_one rfl (guard_none rfl) rfl rfl (does_callk rfl callok86 rfl (spec_l2Digits.calls (x0 := (gt x0.fIns a3525).fAt) h3564)) ?_
     rintro _ w3567 ⟨rfl, hn⟩
     replace HM : Mem w [] w3567 [] := HM.call hn
     have hS := Mem.suf (M := []) HM
     refine ⟨hS, ?_⟩
     refine dp rfl rfl rfl rfl (ex_sadd rfl rfl rfl (leB_le e3565)) hS ?_
     refine dp rfl rfl rfl rfl (ex_assign rfl rfl) hS ?_
     refine drwp_done ?_
     refine at_block ?_
     refine at_then ?_
     refine run_region rfl ?_
     refine ox rfl rfl rfl rfl (ex_move rfl rfl) ?_
     refine ox rfl rfl rfl rfl (ex_add rfl rfl rfl) ?_
     refine ox rfl rfl rfl rfl (ex_assign rfl rfl) ?_
     refine ops_nil ?_
     exact at_again k3544 (ρ1 := [(0, .pointer (some ⟨b0, f0, none⟩)), (3, .string ((((a3524 ++ a3549) ++ t3559) ++ (⟨#[58]⟩ : ByteArray)) ++ t3563)), (4, .int .i64 (wrap64 (a3525 + 1)))]) (Nat.lt_succ_self _) ⟨_, _, ho3505, rfl, HM⟩ (Sub.cons rfl (Sub.cons rfl (Sub.cons rfl Sub.nil)))
   ·replace ho3505 := cond_f hb3546 ho3505
    refine run_exit ?_
    refine at_then_exit ?_
    refine at_then_exit ?_
    refine at_block_exit ?_
    exact at_mid (ρ' := [(0, .pointer (some ⟨b0, f0, none⟩)), (3, .string a3524)]) ⟨_, (Option.some.inj ho3505), rfl, HM⟩ (Sub.cons rfl (Sub.cons rfl Sub.nil))
  ·rintro _ w3568 ⟨a3503, rfl, rfl, HM⟩
   obtain ⟨o3629, ho3630, H⟩ := bind_some H
   refine run_mid (fun ρ_ w_ => ∃ a3628 : ByteArray, a3628 = o3629 ∧ ρ_ = [(3, .string a3628)] ∧ Mem w [] w_ []) ?_ ?_
   ·clear H
    refine run_seq ?_
    refine run_region rfl ?_
    refine ox rfl rfl rfl rfl (ex_assign rfl rfl) ?_
    refine ops_nil (at_then ?_)
    refine run_block ?_
    refine run_loop (fun k_ ρ_ w_ => ∃ a3650 : ByteArray, ∃ a3651 : Int, spec_l3Text.l1 x0 k_ a3650 a3651 = some o3629 ∧ ρ_ = [(0, .pointer (some ⟨b0, f0, none⟩)), (3, .string a3650), (6, .int .i64 a3651)] ∧ Mem w [] w_ []) k (ρ1 := [(0, .pointer (some ⟨b0, f0, none⟩)), (3, .string a3503), (6, .int .i64 0)]) ⟨_, _, ho3630, rfl, HM⟩ (Sub.cons rfl (Sub.cons rfl (Sub.cons rfl Sub.nil))) ?_
    clear HM ho3630
    rintro k3671 _ w3672 ⟨a3650, a3651, ho3630, rfl, HM⟩
    obtain _ | k3671 := k3671
    ·exact nomatch ((spec_l3Text.l1_z x0 a3650 a3651).symm.trans ho3630)
    replace ho3630 := (spec_l3Text.l1_s x0 k3671 a3650 a3651).symm.trans ho3630
    refine run_seq ?_
    refine run_seq ?_
    refine run_region rfl ?_
    refine ox rfl rfl rfl rfl (ex_move rfl rfl) ?_
    refine ox rfl rfl rfl rfl (ex_move rfl rfl) ?_
    refine ox rfl rfl rfl rfl (ex_nilCheck rfl rfl) ?_
    refine ox rfl rfl rfl rfl (ex_fieldAddr (off' := f0 + 3) rfl rfl Tryz.underlying46 rfl tsz44 rfl) ?_
    refine ox rfl rfl rfl rfl (ex_load1 rfl rfl Tryz.underlying44 rfl ((HM.at_ hc0) 3 _ rfl)) ?_
    refine ox rfl rfl rfl rfl (ex_len (d := kOut) (xs := x0.fOuts) rfl rfl Tryz.underlying44 hp0_1) ?_
    refine ox rfl rfl rfl rfl (ex_lss rfl rfl rfl) ?_
    refine ops_nil (at_then ?_)
    refine run_cond (b := (decide (a3651 < (x0.fOuts.length : Int)))) rfl (fun hb3673 => ?_) (fun hb3673 => ?_)
    ·replace ho3630 := cond_t hb3673 ho3630
     refine run_skip ?_
     refine at_then ?_
     refine run_seq ?_
     refine run_block ?_
     obtain ⟨e3674, ho3630⟩ := chk_some ho3630
     obtain ⟨e3675, ho3630⟩ := chk_some ho3630
     obtain ⟨e3679, ho3630⟩ := chk_some ho3630
     obtain ⟨t3683, h3684, ho3630⟩ := bind_some ho3630
     obtain ⟨e3685, ho3630⟩ := chk_some ho3630
     obtain ⟨e3686, ho3630⟩ := chk_some ho3630
     obtain ⟨t3687, h3688, ho3630⟩ := bind_some ho3630
     obtain ⟨t3689, h3690, ho3630⟩ := bind_some ho3630
     obtain ⟨e3691, ho3630⟩ := chk_some ho3630
     refine run_drawf (fun w_ => Mem w [] w_ []) [(0, true), (1, true), (2, true), (3, true), (4, true), (5, true), (6, true), (7, true), (8, true), (9, true), (13, true), (14, true), (15, true), (16, true), (17, true), (18, true), (19, true), (10, false), (11, true), (12, true), (20, false), (21, false), (22, true), (23, true)] mixed rfl rfl (by kernel_rfl) ?_
     replace HM := HM.grow (fr_drew _)
     have hS := Mem.suf (M := []) HM
     refine dp rfl rfl rfl rfl (ex_move rfl rfl) hS ?_
     refine dp rfl rfl rfl rfl (ex_sadd rfl rfl rfl (leB_le e3674)) hS ?_
     refine dp rfl rfl rfl rfl (ex_move rfl rfl) hS ?_
     refine dp rfl rfl rfl rfl (ex_nilCheck rfl rfl) hS ?_
     refine dp rfl rfl rfl rfl (ex_fieldAddr (off' := f0 + 3) rfl rfl Tryz.underlying46 rfl tsz44 rfl) hS ?_
     refine drwp_take rfl (guard_none rfl) rfl rfl (fun w_ hS_ => (ex_load1 rfl rfl Tryz.underlying44 rfl ((hS_.at_ hc0) 3 _ rfl))) hS ?_
     refine dp rfl rfl rfl rfl (ex_move rfl rfl) hS ?_
     obtain ⟨kv3677, hc3676, hk3678⟩ : ∃ u, CellsAt _ (sb p0_1) (so p0_1 + (a3651).toNat * 4) [(.int .i64 ((gt x0.fOuts a3651).fValue)), u, (.int .i64 ((gt x0.fOuts a3651).fRule.fNeed)), (.int .i64 ((gt x0.fOuts a3651).fRule.fAfter))] ∧ RdS kInt _ u ((gt x0.fOuts a3651).fRule.fKeys) := rd_with1 hp0_1 e3675
     refine dp rfl rfl rfl rfl (ex_indexAddr (d := kOut) rfl rfl rfl Tryz.underlying44 tsz84 hp0_1 (idx_lo e3675) (idx_hi e3675)) hS ?_
     refine dp rfl rfl rfl rfl (ex_fieldAddr (off' := so p0_1 + (a3651).toNat * 4) rfl rfl Tryz.underlying84 rfl tsz2 rfl) hS ?_
     refine drwp_take rfl (guard_none rfl) rfl rfl (fun w_ hS_ => (ex_load1 rfl rfl Tryz.underlying2 rfl ((hS_.at_ hc3676) 0 _ rfl))) hS ?_
     refine dp rfl rfl rfl rfl (ex_move rfl rfl) hS ?_
     refine dp rfl rfl rfl rfl (ex_nilCheck rfl rfl) hS ?_
     refine dp rfl rfl rfl rfl (ex_fieldAddr (off' := f0 + 3) rfl rfl Tryz.underlying46 rfl tsz44 rfl) hS ?_
     refine drwp_take rfl (guard_none rfl) rfl rfl (fun w_ hS_ => (ex_load1 rfl rfl Tryz.underlying44 rfl ((hS_.at_ hc0) 3 _ rfl))) hS ?_
     refine dp rfl rfl rfl rfl (ex_move rfl rfl) hS ?_
     obtain ⟨kv3681, hc3680, hk3682⟩ : ∃ u, CellsAt _ (sb p0_1) (so p0_1 + (a3651).toNat * 4) [(.int .i64 ((gt x0.fOuts a3651).fValue)), u, (.int .i64 ((gt x0.fOuts a3651).fRule.fNeed)), (.int .i64 ((gt x0.fOuts a3651).fRule.fAfter))] ∧ RdS kInt _ u ((gt x0.fOuts a3651).fRule.fKeys) := rd_with1 hp0_1 e3679
     refine dp rfl rfl rfl rfl (ex_indexAddr (d := kOut) rfl rfl rfl Tryz.underlying44 tsz84 hp0_1 (idx_lo e3679) (idx_hi e3679)) hS ?_
     refine dp rfl rfl rfl rfl (ex_fieldAddr (off' := so p0_1 + (a3651).toNat * 4 + 1) rfl rfl Tryz.underlying84 rfl tsz82 rfl) hS ?_
     refine drwp_one rfl (guard_none rfl) rfl rfl (does_callk rfl callok86 rfl (spec_l2Digits.calls (x0 := (gt x0.fOuts a3651).fValue) h3684)) ?_
     rintro _ w3692 ⟨rfl, hn⟩
     replace HM : Mem w [] w3692 [] := HM.call hn
     have hS := Mem.suf (M := []) HM
     refine ⟨hS, ?_⟩
     refine dp rfl rfl rfl rfl (ex_sadd rfl rfl rfl (leB_le e3685)) hS ?_
     refine dp rfl rfl rfl rfl (ex_sadd rfl rfl rfl (leB_le e3686)) hS ?_
     refine drwp_one rfl (guard_none rfl) rfl rfl (does_callk rfl callok88 rfl (spec_l2Text.calls (x0 := (gt x0.fOuts a3651).fRule) (CellsAt.sub (HM.at_ hc3680) 1 3 rfl) (HM.rd hk3682) h3688)) ?_
     rintro _ w3693 ⟨rfl, hn⟩
     replace HM : Mem w [] w3693 [] := HM.call hn
     have hS := Mem.suf (M := []) HM
     refine ⟨hS, ?_⟩
     refine drwp_one rfl (guard_none rfl) rfl rfl (does_callk rfl callok87 rfl (spec_l3Swap.calls (x0 := t3687) (x1 := 32) (x2 := 95) h3690)) ?_
     rintro _ w3694 ⟨rfl, hn⟩
     replace HM : Mem w [] w3694 [] := HM.call hn
     have hS := Mem.suf (M := []) HM
     refine ⟨hS, ?_⟩
     refine dp rfl rfl rfl rfl (ex_sadd rfl rfl rfl (leB_le e3691)) hS ?_
     refine dp rfl rfl rfl rfl (ex_assign rfl rfl) hS ?_
     refine drwp_done ?_
     refine at_block ?_
     refine at_then ?_
     refine run_region rfl ?_
     refine ox rfl rfl rfl rfl (ex_move rfl rfl) ?_
     refine ox rfl rfl rfl rfl (ex_add rfl rfl rfl) ?_
     refine ox rfl rfl rfl rfl (ex_assign rfl rfl) ?_
     refine ops_nil ?_
     exact at_again k3671 (ρ1 := [(0, .pointer (some ⟨b0, f0, none⟩)), (3, .string ((((a3650 ++ (⟨#[32]⟩ : ByteArray)) ++ t3683) ++ (⟨#[61]⟩ : ByteArray)) ++ t3689)), (6, .int .i64 (wrap64 (a3651 + 1)))]) (Nat.lt_succ_self _) ⟨_, _, ho3630, rfl, HM⟩ (Sub.cons rfl (Sub.cons rfl (Sub.cons rfl Sub.nil)))
    ·replace ho3630 := cond_f hb3673 ho3630
     refine run_exit ?_
     refine at_then_exit ?_
     refine at_then_exit ?_
     refine at_block_exit ?_
     exact at_mid (ρ' := [(3, .string a3650)]) ⟨_, (Option.some.inj ho3630), rfl, HM⟩ (Sub.cons rfl Sub.nil)
   ·rintro _ w3695 ⟨a3628, rfl, rfl, HM⟩
    refine run_seq ?_
    refine run_region rfl ?_
    refine ox rfl rfl rfl rfl (ex_move rfl rfl) ?_
    refine ox rfl rfl rfl rfl (ex_assign rfl rfl) ?_
    refine ops_nil (at_then ?_)
    refine run_ret ?_
    have hR := Option.some.inj H
    subst hR
    exact at_ret1 rfl rfl ⟨_, rfl, rfl, HM⟩

def spec_TxText.f (k : Nat) (x0 : Tx) : Option TextResult := ((spec_l3Fault.f k x0).bind fun t3710 => (bif (t3710 != 0) then some (⟨t3710, (⟨#[]⟩ : ByteArray)⟩ : TextResult) else ((spec_l3Text.f k x0).bind fun t3715 => (bif (decide (300 < (t3715.size : Int))) then some (⟨2, (⟨#[]⟩ : ByteArray)⟩ : TextResult) else some (⟨0, t3715⟩ : TextResult)))))
theorem spec_TxText.calls {k : Nat} {x0 : Tx} {p0_0 : Value} {p0_1 : Value} {w : World} (hp0_0 : RdS kRef w p0_0 x0.fIns) (hp0_1 : RdS kOut w p0_1 x0.fOuts) {r : TextResult} (H : spec_TxText.f k x0 = some r) :
  Calls Tryz.prog 25 ([.agg #[(.int .i64 x0.fKind), (.int .i64 x0.fMember), p0_0, p0_1]] : List Value).toArray w (fun e w_ => ∃ v, e = .returned v ∧ v = (.agg #[.int .i64 r.fCode, .string r.fText]) ∧ Mem w [] w_ []) := by
 have HM := Mem.start w
 refine calls_run (N := 17) Tryz.func25 rfl rfl rfl rfl ?_
 unfold spec_TxText.f at H
 refine run_seq ?_
 refine run_region rfl ?_
 refine od rfl rfl rfl rfl (does_box (cs := [.int .i64 x0.fKind, .int .i64 x0.fMember, p0_0, p0_1]) rfl rfl rfl HM) ?_
 rintro _ w3705 ⟨b3699, rfl, HM⟩
 refine od rfl rfl rfl rfl (does_alloc (cs := [.int .i64 0, .string (⟨#[]⟩ : ByteArray)]) rfl tz74 rfl HM) ?_
 rintro _ w3706 ⟨b3702, rfl, HM⟩
 refine ops_nil (at_then (run_seq ?_))
 refine run_seq ?_
 obtain ⟨t3710, h3711, H⟩ := bind_some H
 refine run_region rfl ?_
 refine od rfl rfl rfl rfl (does_callk rfl callok23 rfl (spec_l3Fault.calls (x0 := x0) (HM.box_at 1 rfl) (HM.rd hp0_0) (HM.rd hp0_1) h3711)) ?_
 rintro _ w3712 ⟨rfl, hn⟩
 replace HM : Mem w [] w3712 [box b3702 74 [.int .i64 0, .string (⟨#[]⟩ : ByteArray)], box b3699 46 [.int .i64 x0.fKind, .int .i64 x0.fMember, p0_0, p0_1]] := HM.call hn
 refine ox rfl rfl rfl rfl (ex_assign rfl rfl) ?_
 refine ops_nil (at_then (run_seq ?_))
 refine run_region rfl ?_
 refine ox rfl rfl rfl rfl (ex_move rfl rfl) ?_
 refine ox rfl rfl rfl rfl (ex_neq rfl rfl rfl) ?_
 refine ops_nil (at_then ?_)
 refine run_cond (b := (t3710 != 0)) rfl (fun hb3713 => ?_) (fun hb3713 => ?_)
 ·replace H := cond_t hb3713 H
  refine run_seq ?_
  refine run_region rfl ?_
  refine ox rfl rfl rfl rfl (ex_move rfl rfl) ?_
  refine ox rfl rfl rfl rfl (ex_build (cells := #[(.int .i64 t3710), (.string (⟨#[]⟩ : ByteArray))]) rfl rfl (by kernel_rfl)) ?_
  refine odS rfl rfl rfl (does_store (vs := [.int .i64 t3710, .string (⟨#[]⟩ : ByteArray)]) (cs' := [.int .i64 t3710, .string (⟨#[]⟩ : ByteArray)]) rfl rfl rfl rfl tsz74 (Ones.int (Ones.str Ones.nil)) rfl rfl HM) ?_
  rintro w3714 HM
  refine ops_nil (at_then ?_)
  refine run_ret ?_
  refine at_then_ret ?_
  replace HM := (HM.front 1 rfl rfl).drop
  have hcb0 := HM.box_at 0 rfl
  replace HM := (HM.front 0 rfl rfl).drop
  have hR := Option.some.inj H
  subst hR
  exact at_retN rfl rfl Tryz.underlying74 rfl tsz74 rfl hcb0 ⟨_, rfl, rfl, HM⟩
 ·replace H := cond_f hb3713 H
  refine run_skip ?_
  refine at_then ?_
  refine run_seq ?_
  obtain ⟨t3715, h3716, H⟩ := bind_some H
  refine run_region rfl ?_
  refine od rfl rfl rfl rfl (does_callk rfl callok52 rfl (spec_l3Text.calls (x0 := x0) (HM.box_at 1 rfl) (HM.rd hp0_0) (HM.rd hp0_1) h3716)) ?_
  rintro _ w3717 ⟨rfl, hn⟩
  replace HM : Mem w [] w3717 [box b3702 74 [.int .i64 0, .string (⟨#[]⟩ : ByteArray)], box b3699 46 [.int .i64 x0.fKind, .int .i64 x0.fMember, p0_0, p0_1]] := HM.call hn
  refine ox rfl rfl rfl rfl (ex_assign rfl rfl) ?_
  refine ops_nil (at_then (run_seq ?_))
  refine run_seq ?_
  refine run_region rfl ?_
  refine ox rfl rfl rfl rfl (ex_move rfl rfl) ?_
  refine ox rfl rfl rfl rfl (ex_strlen rfl rfl Tryz.underlying9) ?_
  refine ox rfl rfl rfl rfl (ex_gtr rfl rfl rfl) ?_
  refine ops_nil (at_then ?_)
  refine run_cond (b := (decide (300 < (t3715.size : Int)))) rfl (fun hb3718 => ?_) (fun hb3718 => ?_)
  ·replace H := cond_t hb3718 H
   refine run_seq ?_
   refine run_region rfl ?_
   refine ox rfl rfl rfl rfl (ex_build (cells := #[(.int .i64 2), (.string (⟨#[]⟩ : ByteArray))]) rfl rfl (by kernel_rfl)) ?_
   refine odS rfl rfl rfl (does_store (vs := [.int .i64 2, .string (⟨#[]⟩ : ByteArray)]) (cs' := [.int .i64 2, .string (⟨#[]⟩ : ByteArray)]) rfl rfl rfl rfl tsz74 (Ones.int (Ones.str Ones.nil)) rfl rfl HM) ?_
   rintro w3719 HM
   refine ops_nil (at_then ?_)
   refine run_ret ?_
   refine at_then_ret ?_
   replace HM := (HM.front 1 rfl rfl).drop
   have hcb0 := HM.box_at 0 rfl
   replace HM := (HM.front 0 rfl rfl).drop
   have hR := Option.some.inj H
   subst hR
   exact at_retN rfl rfl Tryz.underlying74 rfl tsz74 rfl hcb0 ⟨_, rfl, rfl, HM⟩
  ·replace H := cond_f hb3718 H
   refine run_skip ?_
   refine at_then ?_
   refine run_seq ?_
   refine run_region rfl ?_
   refine ox rfl rfl rfl rfl (ex_move rfl rfl) ?_
   refine ox rfl rfl rfl rfl (ex_build (cells := #[(.int .i64 0), (.string t3715)]) rfl rfl (by kernel_rfl)) ?_
   refine odS rfl rfl rfl (does_store (vs := [.int .i64 0, .string t3715]) (cs' := [.int .i64 0, .string t3715]) rfl rfl rfl rfl tsz74 (Ones.int (Ones.str Ones.nil)) rfl rfl HM) ?_
   rintro w3720 HM
   refine ops_nil (at_then ?_)
   refine run_ret ?_
   replace HM := (HM.front 1 rfl rfl).drop
   have hcb0 := HM.box_at 0 rfl
   replace HM := (HM.front 0 rfl rfl).drop
   have hR := Option.some.inj H
   subst hR
   exact at_retN rfl rfl Tryz.underlying74 rfl tsz74 rfl hcb0 ⟨_, rfl, rfl, HM⟩
end Go.Proofs.YtpfaihnmonfkhaaGreatDoor.Zk
