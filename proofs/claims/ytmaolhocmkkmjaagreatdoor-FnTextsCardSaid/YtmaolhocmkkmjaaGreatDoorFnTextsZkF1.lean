/- What functions of the program compute, each as a plain function, and that they do. Conditions: as each theorem states them. -/
import Derived.Test.YtmaolhocmkkmjaaGreatDoorFnTextsZkF0
namespace Go.Proofs.YtmaolhocmkkmjaaGreatDoor.Zk
open Go Go.RowKit Go.IntWalk Go.Proofs
set_option linter.unusedVariables false
set_option linter.unusedSimpArgs false
set_option maxRecDepth 100000
set_option maxHeartbeats 4000000
def spec_l3Draw.l0 (x0 : l1Src) : Nat → Int → (List Ref) → Int → Option (Int × (List Ref))
  | 0, _, _, _ => none
  | k + 1, a1045, a1047, a1049 => (bif (decide (0 < a1049)) then ((spec_l1Next.f k (⟨x0.fCode, a1045⟩ : l1Src) 6).bind fun t1083 => ((spec_l1Next.f k (⟨x0.fCode, t1083.2⟩ : l1Src) 2).bind fun t1091 => ((spec_l3Among.f k a1047 (⟨wrap64 (1 + t1083.1), t1091.1⟩ : Ref)).bind fun t1106 => (bif !t1106 then (chk (leB ((a1047.length + ([(⟨wrap64 (1 + t1083.1), t1091.1⟩ : Ref)] : List Ref).length) * 16) 140737488355328) (spec_l3Draw.l0 x0 k t1091.2 (a1047 ++ ([(⟨wrap64 (1 + t1083.1), t1091.1⟩ : Ref)] : List Ref)) (wrap64 (a1049 - 1)))) else spec_l3Draw.l0 x0 k t1091.2 a1047 (wrap64 (a1049 - 1)))))) else some (a1045, a1047))
theorem spec_l3Draw.l0_z (x0 : l1Src) (a1045 : Int) (a1047 : List Ref) (a1049 : Int) : spec_l3Draw.l0 x0 0 a1045 a1047 a1049 = none := rfl
theorem spec_l3Draw.l0_s (x0 : l1Src) (k : Nat) (a1045 : Int) (a1047 : List Ref) (a1049 : Int) : spec_l3Draw.l0 x0 (k + 1) a1045 a1047 a1049 = (bif (decide (0 < a1049)) then ((spec_l1Next.f k (⟨x0.fCode, a1045⟩ : l1Src) 6).bind fun t1083 => ((spec_l1Next.f k (⟨x0.fCode, t1083.2⟩ : l1Src) 2).bind fun t1091 => ((spec_l3Among.f k a1047 (⟨wrap64 (1 + t1083.1), t1091.1⟩ : Ref)).bind fun t1106 => (bif !t1106 then (chk (leB ((a1047.length + ([(⟨wrap64 (1 + t1083.1), t1091.1⟩ : Ref)] : List Ref).length) * 16) 140737488355328) (spec_l3Draw.l0 x0 k t1091.2 (a1047 ++ ([(⟨wrap64 (1 + t1083.1), t1091.1⟩ : Ref)] : List Ref)) (wrap64 (a1049 - 1)))) else spec_l3Draw.l0 x0 k t1091.2 a1047 (wrap64 (a1049 - 1)))))) else some (a1045, a1047)) := rfl
def spec_l3Draw.l1 (x0 : l1Src) : Nat → Int → (List Out) → Int → Option (Int × (List Out))
  | 0, _, _, _ => none
  | k + 1, a1248, a1250, a1252 => (bif (decide (0 < a1252)) then ((spec_l1Next.f k (⟨x0.fCode, a1248⟩ : l1Src) 99).bind fun t1282 => ((spec_l2Draw.f k (⟨x0.fCode, t1282.2⟩ : l1Src)).bind fun t1290 => (chk (leB ((a1250.length + ([(⟨wrap64 (100 + t1282.1), (⟨t1290.1.fKeys, t1290.1.fNeed, t1290.1.fAfter⟩ : Rule)⟩ : Out)] : List Out).length) * 48) 140737488355328) (spec_l3Draw.l1 x0 k t1290.2 (a1250 ++ ([(⟨wrap64 (100 + t1282.1), (⟨t1290.1.fKeys, t1290.1.fNeed, t1290.1.fAfter⟩ : Rule)⟩ : Out)] : List Out)) (wrap64 (a1252 - 1)))))) else some (a1248, a1250))
theorem spec_l3Draw.l1_z (x0 : l1Src) (a1248 : Int) (a1250 : List Out) (a1252 : Int) : spec_l3Draw.l1 x0 0 a1248 a1250 a1252 = none := rfl
theorem spec_l3Draw.l1_s (x0 : l1Src) (k : Nat) (a1248 : Int) (a1250 : List Out) (a1252 : Int) : spec_l3Draw.l1 x0 (k + 1) a1248 a1250 a1252 = (bif (decide (0 < a1252)) then ((spec_l1Next.f k (⟨x0.fCode, a1248⟩ : l1Src) 99).bind fun t1282 => ((spec_l2Draw.f k (⟨x0.fCode, t1282.2⟩ : l1Src)).bind fun t1290 => (chk (leB ((a1250.length + ([(⟨wrap64 (100 + t1282.1), (⟨t1290.1.fKeys, t1290.1.fNeed, t1290.1.fAfter⟩ : Rule)⟩ : Out)] : List Out).length) * 48) 140737488355328) (spec_l3Draw.l1 x0 k t1290.2 (a1250 ++ ([(⟨wrap64 (100 + t1282.1), (⟨t1290.1.fKeys, t1290.1.fNeed, t1290.1.fAfter⟩ : Rule)⟩ : Out)] : List Out)) (wrap64 (a1252 - 1)))))) else some (a1248, a1250)) := rfl
def spec_l3Draw.f (k : Nat) (x0 : l1Src) : Option (Tx × Int) := ((spec_l1Pick.f k x0 ([0, 0, 0, 1, 2] : List Int)).bind fun t784 => ((bif (t784.1 != 0) then ((spec_l1Next.f k (⟨x0.fCode, t784.2⟩ : l1Src) 4).bind fun t822 => some (t822.2, wrap64 (1 + t822.1))) else some (t784.2, 0)).bind (cur2 (fun a817 a818 => (((spec_l1Next.f k (⟨x0.fCode, a817⟩ : l1Src) 2).bind fun t973 => spec_l3Draw.l0 x0 k t973.2 ([] : List Ref) (wrap64 (1 + t973.1))).bind (cur2 (fun a967 a969 => (((spec_l1Next.f k (⟨x0.fCode, a967⟩ : l1Src) 2).bind fun t1214 => spec_l3Draw.l1 x0 k t1214.2 ([] : List Out) (wrap64 (1 + t1214.1))).bind (cur2 (fun a1208 a1210 => some ((⟨t784.1, a818, a969, a1210⟩ : Tx), a1208)))))))))))
theorem spec_l3Draw.calls {k : Nat} {x0 : l1Src} {b0 : Nat} {p0_0 : Value} {w wo : World} {X : List Nat} (hwo : Olds wo w X) (hX : Hold w [box b0 70 [p0_0, .int .i64 x0.fAt]] X) (hXn : X.Nodup) (hXl : ∀ b ∈ X, b < w.heap.size) (hp0_0 : RdS kU8 wo p0_0 x0.fCode) {r : Tx × Int} (H : spec_l3Draw.f k x0 = some r) :
    Calls Tryz.prog 17 ([.pointer (some ⟨b0, 0, none⟩)] : List Value).toArray w (fun e w_ => ∃ v, e = .returned v ∧ ∃ u0 : Value, ∃ u1 : Value, v = (.agg #[.int .i64 r.1.fKind, .int .i64 r.1.fMember, u0, u1]) ∧ Mem w X w_ [own kRef 62 u0 r.1.fIns, own kOut 44 u1 r.1.fOuts, box b0 70 [p0_0, .int .i64 r.2]]) := by
  have HM := Mem.startX hX hXn hXl
  refine calls_run (N := 61) Tryz.func17 rfl rfl rfl rfl ?_
  unfold spec_l3Draw.f at H
  refine run_seq ?_
  refine run_region rfl ?_
  refine od rfl rfl rfl rfl (does_alloc (cs := [.int .i64 0, .int .i64 0, .slice none 0 0, .slice none 0 0]) rfl tz28 rfl HM) ?_
  rintro _ w780 ⟨b777, rfl, HM⟩
  refine ops_nil (at_then (run_seq ?_))
  obtain ⟨t784, h785, H⟩ := bind_some H
  refine run_region rfl ?_
  refine ox rfl rfl rfl rfl (ex_move rfl rfl) ?_
  refine od rfl rfl rfl rfl (does_lit (e := 2) (cs := [.int .i64 0, .int .i64 0, .int .i64 0, .int .i64 1, .int .i64 2]) (xs := ([0, 0, 0, 1, 2] : List Int)) kInt rfl rfl (fun _ => by kernel_rfl) rfl rfl (fun _ _ h => by have h' : _ = [] := h; subst h'; exact (Elems.cons (d := kInt) (x := 0) (f := []) ⟨rfl, rfl⟩ (Elems.cons (d := kInt) (x := 0) (f := []) ⟨rfl, rfl⟩ (Elems.cons (d := kInt) (x := 0) (f := []) ⟨rfl, rfl⟩ (Elems.cons (d := kInt) (x := 1) (f := []) ⟨rfl, rfl⟩ (Elems.cons (d := kInt) (x := 2) (f := []) ⟨rfl, rfl⟩ .nil)))))) HM.emp) ?_
  rintro v781 w795 HM
  replace HM := HM.front 2 rfl rfl
  obtain ⟨F786, hF787, hFn788, hFl789, HMh790, hcl791⟩ := HM.hide (Ms := [box b0 70 [p0_0, .int .i64 x0.fAt]])
  refine od rfl rfl rfl rfl (does_callk rfl callok20 rfl (spec_l1Pick.calls (x0 := x0) (x1 := ([0, 0, 0, 1, 2] : List Int)) (hide_olds _ _) hF787 hFn788 hFl789 (HMh790.rdo hwo hp0_0) (HMh790.own_rd 0 rfl) h785)) ?_
  rintro _ w796 ⟨rfl, hn⟩
  replace HM : Mem w X w796 [box b0 70 [p0_0, .int .i64 t784.2], own kInt 2 v781 ([0, 0, 0, 1, 2] : List Int), box b777 28 [.int .i64 0, .int .i64 0, .slice none 0 0, .slice none 0 0]] := hcl791 _ _ hn
  refine ox rfl rfl rfl rfl (ex_build (cells := #[(.int .i64 t784.1), (.int .i64 0), (.slice none 0 0), (.slice none 0 0)]) rfl rfl (by kernel_rfl)) ?_
  refine od rfl rfl rfl rfl (does_alloc (cs := [.int .i64 0, .int .i64 0, .slice none 0 0, .slice none 0 0]) rfl tz28 rfl HM) ?_
  rintro _ w797 ⟨b792, rfl, HM⟩
  refine odS rfl rfl rfl (does_store (vs := [.int .i64 t784.1, .int .i64 0, .slice none 0 0, .slice none 0 0]) (cs' := [.int .i64 t784.1, .int .i64 0, .slice none 0 0, .slice none 0 0]) rfl rfl rfl rfl tsz28 (Ones.int (Ones.int (Ones.sl (Ones.sl Ones.nil)))) rfl rfl HM) ?_
  rintro w798 HM
  refine ops_nil (at_then ?_)
  obtain ⟨o819, ho820, H⟩ := bind_some H
  refine run_mid (fun ρ_ w_ => ∃ a817 : Int, ∃ a818 : Int, (a817, a818) = o819 ∧ ρ_ = [(0, .pointer (some ⟨b0, 0, none⟩)), (2, .pointer (some ⟨b777, 0, none⟩)), (3, .pointer (some ⟨b792, 0, none⟩))] ∧ Mem w X w_ [box b0 70 [p0_0, .int .i64 a817], box b777 28 [.int .i64 0, .int .i64 0, .slice none 0 0, .slice none 0 0], box b792 28 [.int .i64 t784.1, .int .i64 a818, .slice none 0 0, .slice none 0 0]]) ?_ ?_
  · clear H
    refine run_seq ?_
    refine run_region rfl ?_
    refine ox rfl rfl rfl rfl (ex_fieldAddr (off' := 0) rfl rfl Tryz.underlying28 rfl tsz2 rfl) ?_
    refine ox rfl rfl rfl rfl (ex_load1 rfl rfl Tryz.underlying2 rfl ((HM.box_at 0 rfl) 0 _ rfl)) ?_
    refine ox rfl rfl rfl rfl (ex_neq rfl rfl rfl) ?_
    refine ops_nil (at_then ?_)
    refine run_cond (b := (t784.1 != 0)) rfl (fun hb821 => ?_) (fun hb821 => ?_)
    · replace ho820 := cond_t hb821 ho820
      obtain ⟨t822, h823, ho820⟩ := bind_some ho820
      refine run_region rfl ?_
      refine ox rfl rfl rfl rfl (ex_move rfl rfl) ?_
      replace HM := HM.front 1 rfl rfl
      obtain ⟨F824, hF825, hFn826, hFl827, HMh828, hcl829⟩ := HM.hide (Ms := [box b0 70 [p0_0, .int .i64 t784.2]])
      refine od rfl rfl rfl rfl (does_callk rfl callok19 rfl (spec_l1Next.calls (x0 := (⟨x0.fCode, t784.2⟩ : l1Src)) (x1 := 4) (hide_olds _ _) hF825 hFn826 hFl827 (HMh828.rdo hwo hp0_0) h823)) ?_
      rintro _ w830 ⟨rfl, hn⟩
      replace HM : Mem w X w830 [box b0 70 [p0_0, .int .i64 t822.2], box b792 28 [.int .i64 t784.1, .int .i64 0, .slice none 0 0, .slice none 0 0], own kInt 2 v781 ([0, 0, 0, 1, 2] : List Int), box b777 28 [.int .i64 0, .int .i64 0, .slice none 0 0, .slice none 0 0]] := hcl829 _ _ hn
      refine ox rfl rfl rfl rfl (ex_add rfl rfl rfl) ?_
      refine ox rfl rfl rfl rfl (ex_fieldAddr (off' := 1) rfl rfl Tryz.underlying28 rfl tsz2 rfl) ?_
      replace HM := HM.front 1 rfl rfl
      refine odS rfl rfl rfl (does_store (vs := [.int .i64 (wrap64 (1 + t822.1))]) (cs' := [.int .i64 t784.1, .int .i64 (wrap64 (1 + t822.1)), .slice none 0 0, .slice none 0 0]) rfl rfl rfl rfl tsz2 (Ones.int Ones.nil) rfl rfl HM) ?_
      rintro w831 HM
      refine ops_nil ?_
      replace HM := (HM.front 2 rfl rfl).drop
      replace HM := HM.front 2 rfl rfl
      replace HM := HM.front 2 rfl rfl
      exact at_mid (ρ' := [(0, .pointer (some ⟨b0, 0, none⟩)), (2, .pointer (some ⟨b777, 0, none⟩)), (3, .pointer (some ⟨b792, 0, none⟩))]) ⟨_, _, (Option.some.inj ho820), rfl, HM⟩ (Sub.cons rfl (Sub.cons rfl (Sub.cons rfl Sub.nil)))
    · replace ho820 := cond_f hb821 ho820
      refine run_skip ?_
      replace HM := (HM.front 2 rfl rfl).drop
      replace HM := HM.front 2 rfl rfl
      replace HM := HM.front 2 rfl rfl
      exact at_mid (ρ' := [(0, .pointer (some ⟨b0, 0, none⟩)), (2, .pointer (some ⟨b777, 0, none⟩)), (3, .pointer (some ⟨b792, 0, none⟩))]) ⟨_, _, (Option.some.inj ho820), rfl, HM⟩ (Sub.cons rfl (Sub.cons rfl (Sub.cons rfl Sub.nil)))
  · rintro _ w832 ⟨a817, a818, rfl, rfl, HM⟩
    replace H := cur2_mk H
    obtain ⟨o971, ho972, H⟩ := bind_some H
    refine run_mid (fun ρ_ w_ => ∃ a967 : Int, ∃ v968 : Value, ∃ a969 : List Ref, (a967, a969) = o971 ∧ ρ_ = [(0, .pointer (some ⟨b0, 0, none⟩)), (2, .pointer (some ⟨b777, 0, none⟩)), (3, .pointer (some ⟨b792, 0, none⟩))] ∧ Mem w X w_ [box b0 70 [p0_0, .int .i64 a967], box b777 28 [.int .i64 0, .int .i64 0, .slice none 0 0, .slice none 0 0], box b792 28 [.int .i64 t784.1, .int .i64 a818, v968, .slice none 0 0], own kRef 62 v968 a969]) ?_ ?_
    · clear H
      refine run_seq ?_
      obtain ⟨t973, h974, ho972⟩ := bind_some ho972
      refine run_region rfl ?_
      refine ox rfl rfl rfl rfl (ex_move rfl rfl) ?_
      obtain ⟨F975, hF976, hFn977, hFl978, HMh979, hcl980⟩ := HM.hide (Ms := [box b0 70 [p0_0, .int .i64 a817]])
      refine od rfl rfl rfl rfl (does_callk rfl callok19 rfl (spec_l1Next.calls (x0 := (⟨x0.fCode, a817⟩ : l1Src)) (x1 := 2) (hide_olds _ _) hF976 hFn977 hFl978 (HMh979.rdo hwo hp0_0) h974)) ?_
      rintro _ w981 ⟨rfl, hn⟩
      replace HM : Mem w X w981 [box b0 70 [p0_0, .int .i64 t973.2], box b777 28 [.int .i64 0, .int .i64 0, .slice none 0 0, .slice none 0 0], box b792 28 [.int .i64 t784.1, .int .i64 a818, .slice none 0 0, .slice none 0 0]] := hcl980 _ _ hn
      refine ox rfl rfl rfl rfl (ex_add rfl rfl rfl) ?_
      refine ox rfl rfl rfl rfl (ex_assign rfl rfl) ?_
      refine ops_nil (at_then ?_)
      refine run_block ?_
      replace HM := HM.empty kRef 62 none
      replace HM := HM.front 3 rfl rfl
      replace HM := HM.front 3 rfl rfl
      replace HM := HM.front 3 rfl rfl
      refine run_loop (fun k_ ρ_ w_ => ∃ a1045 : Int, ∃ v1046 : Value, ∃ a1047 : List Ref, ∃ a1049 : Int, spec_l3Draw.l0 x0 k_ a1045 a1047 a1049 = some o971 ∧ ρ_ = [(0, .pointer (some ⟨b0, 0, none⟩)), (2, .pointer (some ⟨b777, 0, none⟩)), (3, .pointer (some ⟨b792, 0, none⟩)), (4, .int .i64 a1049)] ∧ Mem w X w_ [box b0 70 [p0_0, .int .i64 a1045], box b777 28 [.int .i64 0, .int .i64 0, .slice none 0 0, .slice none 0 0], box b792 28 [.int .i64 t784.1, .int .i64 a818, v1046, .slice none 0 0], own kRef 62 v1046 a1047]) k (ρ1 := [(0, .pointer (some ⟨b0, 0, none⟩)), (2, .pointer (some ⟨b777, 0, none⟩)), (3, .pointer (some ⟨b792, 0, none⟩)), (4, .int .i64 (wrap64 (1 + t973.1)))]) ⟨_, _, _, _, ho972, rfl, HM⟩ (Sub.cons rfl (Sub.cons rfl (Sub.cons rfl (Sub.cons rfl Sub.nil)))) ?_
      clear HM ho972
      rintro k1080 _ w1081 ⟨a1045, v1046, a1047, a1049, ho972, rfl, HM⟩
      obtain _ | k1080 := k1080
      · exact nomatch ((spec_l3Draw.l0_z x0 a1045 a1047 a1049).symm.trans ho972)
      replace ho972 := (spec_l3Draw.l0_s x0 k1080 a1045 a1047 a1049).symm.trans ho972
      refine run_seq ?_
      refine run_seq ?_
      refine run_region rfl ?_
      refine ox rfl rfl rfl rfl (ex_move rfl rfl) ?_
      refine ox rfl rfl rfl rfl (ex_gtr rfl rfl rfl) ?_
      refine ops_nil (at_then ?_)
      refine run_cond (b := (decide (0 < a1049))) rfl (fun hb1082 => ?_) (fun hb1082 => ?_)
      · replace ho972 := cond_t hb1082 ho972
        refine run_skip ?_
        refine at_then ?_
        refine run_seq ?_
        refine run_block ?_
        refine run_seq ?_
        obtain ⟨t1083, h1084, ho972⟩ := bind_some ho972
        obtain ⟨t1091, h1092, ho972⟩ := bind_some ho972
        refine run_region rfl ?_
        refine ox rfl rfl rfl rfl (ex_move rfl rfl) ?_
        obtain ⟨F1085, hF1086, hFn1087, hFl1088, HMh1089, hcl1090⟩ := HM.hide (Ms := [box b0 70 [p0_0, .int .i64 a1045]])
        refine od rfl rfl rfl rfl (does_callk rfl callok19 rfl (spec_l1Next.calls (x0 := (⟨x0.fCode, a1045⟩ : l1Src)) (x1 := 6) (hide_olds _ _) hF1086 hFn1087 hFl1088 (HMh1089.rdo hwo hp0_0) h1084)) ?_
        rintro _ w1102 ⟨rfl, hn⟩
        replace HM : Mem w X w1102 [box b0 70 [p0_0, .int .i64 t1083.2], box b777 28 [.int .i64 0, .int .i64 0, .slice none 0 0, .slice none 0 0], box b792 28 [.int .i64 t784.1, .int .i64 a818, v1046, .slice none 0 0], own kRef 62 v1046 a1047] := hcl1090 _ _ hn
        refine ox rfl rfl rfl rfl (ex_add rfl rfl rfl) ?_
        refine ox rfl rfl rfl rfl (ex_move rfl rfl) ?_
        obtain ⟨F1093, hF1094, hFn1095, hFl1096, HMh1097, hcl1098⟩ := HM.hide (Ms := [box b0 70 [p0_0, .int .i64 t1083.2]])
        refine od rfl rfl rfl rfl (does_callk rfl callok19 rfl (spec_l1Next.calls (x0 := (⟨x0.fCode, t1083.2⟩ : l1Src)) (x1 := 2) (hide_olds _ _) hF1094 hFn1095 hFl1096 (HMh1097.rdo hwo hp0_0) h1092)) ?_
        rintro _ w1103 ⟨rfl, hn⟩
        replace HM : Mem w X w1103 [box b0 70 [p0_0, .int .i64 t1091.2], box b777 28 [.int .i64 0, .int .i64 0, .slice none 0 0, .slice none 0 0], box b792 28 [.int .i64 t784.1, .int .i64 a818, v1046, .slice none 0 0], own kRef 62 v1046 a1047] := hcl1098 _ _ hn
        refine ox rfl rfl rfl rfl (ex_build (cells := #[(.int .i64 (wrap64 (1 + t1083.1))), (.int .i64 t1091.1)]) rfl rfl (by kernel_rfl)) ?_
        refine od rfl rfl rfl rfl (does_alloc (cs := [.int .i64 0, .int .i64 0]) rfl tz62 rfl HM) ?_
        rintro _ w1104 ⟨b1099, rfl, HM⟩
        refine odS rfl rfl rfl (does_store (vs := [.int .i64 (wrap64 (1 + t1083.1)), .int .i64 t1091.1]) (cs' := [.int .i64 (wrap64 (1 + t1083.1)), .int .i64 t1091.1]) rfl rfl rfl rfl tsz62 (Ones.int (Ones.int Ones.nil)) rfl rfl HM) ?_
        rintro w1105 HM
        refine ops_nil (at_then (run_seq ?_))
        obtain ⟨t1106, h1107, ho972⟩ := bind_some ho972
        refine run_region rfl ?_
        refine ox rfl rfl rfl rfl (ex_fieldAddr (off' := 2) rfl rfl Tryz.underlying28 rfl tsz25 rfl) ?_
        refine ox rfl rfl rfl rfl (ex_load1 rfl rfl Tryz.underlying25 rfl ((HM.box_at 3 rfl) 2 _ rfl)) ?_
        refine ox rfl rfl rfl rfl (ex_loadN (cs := [(.int .i64 (wrap64 (1 + t1083.1))), (.int .i64 t1091.1)]) rfl rfl Tryz.underlying62 rfl tsz62 rfl ((HM.box_at 0 rfl).sub 0 2 rfl)) ?_
        refine od rfl rfl rfl rfl (does_callk rfl callok37 rfl (spec_l3Among.calls (x0 := a1047) (x1 := (⟨wrap64 (1 + t1083.1), t1091.1⟩ : Ref)) (HM.own_rd 4 rfl) h1107)) ?_
        rintro _ w1108 ⟨rfl, hn⟩
        replace HM : Mem w X w1108 [box b1099 62 [.int .i64 (wrap64 (1 + t1083.1)), .int .i64 t1091.1], box b0 70 [p0_0, .int .i64 t1091.2], box b777 28 [.int .i64 0, .int .i64 0, .slice none 0 0, .slice none 0 0], box b792 28 [.int .i64 t784.1, .int .i64 a818, v1046, .slice none 0 0], own kRef 62 v1046 a1047] := HM.call hn
        refine ox rfl rfl rfl rfl (ex_not rfl rfl) ?_
        refine ops_nil (at_then ?_)
        refine run_cond (b := !t1106) rfl (fun hb1109 => ?_) (fun hb1109 => ?_)
        · replace ho972 := cond_t hb1109 ho972
          obtain ⟨e1113, ho972⟩ := chk_some ho972
          refine run_region rfl ?_
          refine ox rfl rfl rfl rfl (ex_fieldAddr (off' := 2) rfl rfl Tryz.underlying28 rfl tsz25 rfl) ?_
          refine ox rfl rfl rfl rfl (ex_load1 rfl rfl Tryz.underlying25 rfl ((HM.box_at 3 rfl) 2 _ rfl)) ?_
          refine ox rfl rfl rfl rfl (ex_loadN (cs := [(.int .i64 (wrap64 (1 + t1083.1))), (.int .i64 t1091.1)]) rfl rfl Tryz.underlying62 rfl tsz62 rfl ((HM.box_at 0 rfl).sub 0 2 rfl)) ?_
          refine od rfl rfl rfl rfl (does_lit (e := 62) (cs := [.int .i64 (wrap64 (1 + t1083.1)), .int .i64 t1091.1]) (xs := ([(⟨wrap64 (1 + t1083.1), t1091.1⟩ : Ref)] : List Ref)) kRef rfl rfl (fun _ => by kernel_rfl) rfl rfl (fun _ _ h => by have h' : _ = [] := h; subst h'; exact (Elems.cons (d := kRef) (x := (⟨wrap64 (1 + t1083.1), t1091.1⟩ : Ref)) (f := []) ⟨rfl, rfl⟩ .nil)) HM.emp) ?_
          rintro v1110 w1116 HM
          replace HM := HM.front 5 rfl rfl
          refine od rfl rfl rfl rfl (does_appendR kRef flat_plain rfl rfl rfl Tryz.underlying25 tsz62 rfl tby62 tz62 rfl rfl (leB_le e1113) (HM.own_rd 1 rfl) HM) ?_
          rintro v1114 w1117 HM
          refine ox rfl rfl rfl rfl (ex_fieldAddr (off' := 2) rfl rfl Tryz.underlying28 rfl tsz25 rfl) ?_
          replace HM := HM.front 5 rfl rfl
          refine odS rfl rfl rfl (does_store (vs := [v1114]) (cs' := [.int .i64 t784.1, .int .i64 a818, v1114, .slice none 0 0]) rfl rfl rfl (rd_cells (HM.own_rd 1 rfl)) tsz25 (Ones.rd (HM.own_rd 1 rfl) Ones.nil) rfl rfl HM) ?_
          rintro w1118 HM
          refine ops_nil ?_
          refine at_block ?_
          refine at_then ?_
          refine run_region rfl ?_
          refine ox rfl rfl rfl rfl (ex_move rfl rfl) ?_
          refine ox rfl rfl rfl rfl (ex_sub rfl rfl rfl) ?_
          refine ox rfl rfl rfl rfl (ex_assign rfl rfl) ?_
          refine ops_nil ?_
          replace HM := (HM.front 2 rfl rfl).drop
          replace HM := (HM.front 2 rfl rfl).drop
          replace HM := HM.front 1 rfl rfl
          replace HM := HM.front 1 rfl rfl
          replace HM := HM.front 3 rfl rfl
          replace HM := HM.front 3 rfl rfl
          exact at_again k1080 (ρ1 := [(0, .pointer (some ⟨b0, 0, none⟩)), (2, .pointer (some ⟨b777, 0, none⟩)), (3, .pointer (some ⟨b792, 0, none⟩)), (4, .int .i64 (wrap64 (a1049 - 1)))]) (Nat.lt_succ_self _) ⟨_, _, _, _, ho972, rfl, HM⟩ (Sub.cons rfl (Sub.cons rfl (Sub.cons rfl (Sub.cons rfl Sub.nil))))
        · replace ho972 := cond_f hb1109 ho972
          refine run_skip ?_
          refine at_block ?_
          refine at_then ?_
          refine run_region rfl ?_
          refine ox rfl rfl rfl rfl (ex_move rfl rfl) ?_
          refine ox rfl rfl rfl rfl (ex_sub rfl rfl rfl) ?_
          refine ox rfl rfl rfl rfl (ex_assign rfl rfl) ?_
          refine ops_nil ?_
          replace HM := (HM.front 0 rfl rfl).drop
          exact at_again k1080 (ρ1 := [(0, .pointer (some ⟨b0, 0, none⟩)), (2, .pointer (some ⟨b777, 0, none⟩)), (3, .pointer (some ⟨b792, 0, none⟩)), (4, .int .i64 (wrap64 (a1049 - 1)))]) (Nat.lt_succ_self _) ⟨_, _, _, _, ho972, rfl, HM⟩ (Sub.cons rfl (Sub.cons rfl (Sub.cons rfl (Sub.cons rfl Sub.nil))))
      · replace ho972 := cond_f hb1082 ho972
        refine run_exit ?_
        refine at_then_exit ?_
        refine at_then_exit ?_
        refine at_block_exit ?_
        exact at_mid (ρ' := [(0, .pointer (some ⟨b0, 0, none⟩)), (2, .pointer (some ⟨b777, 0, none⟩)), (3, .pointer (some ⟨b792, 0, none⟩))]) ⟨_, _, _, (Option.some.inj ho972), rfl, HM⟩ (Sub.cons rfl (Sub.cons rfl (Sub.cons rfl Sub.nil)))
    · rintro _ w1119 ⟨a967, v968, a969, rfl, rfl, HM⟩
      replace H := cur2_mk H
      obtain ⟨o1212, ho1213, H⟩ := bind_some H
      refine run_mid (fun ρ_ w_ => ∃ a1208 : Int, ∃ v1209 : Value, ∃ a1210 : List Out, (a1208, a1210) = o1212 ∧ ρ_ = [(2, .pointer (some ⟨b777, 0, none⟩)), (3, .pointer (some ⟨b792, 0, none⟩))] ∧ Mem w X w_ [box b0 70 [p0_0, .int .i64 a1208], box b777 28 [.int .i64 0, .int .i64 0, .slice none 0 0, .slice none 0 0], box b792 28 [.int .i64 t784.1, .int .i64 a818, v968, v1209], own kRef 62 v968 a969, own kOut 44 v1209 a1210]) ?_ ?_
      · clear H
        refine run_seq ?_
        obtain ⟨t1214, h1215, ho1213⟩ := bind_some ho1213
        refine run_region rfl ?_
        refine ox rfl rfl rfl rfl (ex_move rfl rfl) ?_
        obtain ⟨F1216, hF1217, hFn1218, hFl1219, HMh1220, hcl1221⟩ := HM.hide (Ms := [box b0 70 [p0_0, .int .i64 a967]])
        refine od rfl rfl rfl rfl (does_callk rfl callok19 rfl (spec_l1Next.calls (x0 := (⟨x0.fCode, a967⟩ : l1Src)) (x1 := 2) (hide_olds _ _) hF1217 hFn1218 hFl1219 (HMh1220.rdo hwo hp0_0) h1215)) ?_
        rintro _ w1222 ⟨rfl, hn⟩
        replace HM : Mem w X w1222 [box b0 70 [p0_0, .int .i64 t1214.2], box b777 28 [.int .i64 0, .int .i64 0, .slice none 0 0, .slice none 0 0], box b792 28 [.int .i64 t784.1, .int .i64 a818, v968, .slice none 0 0], own kRef 62 v968 a969] := hcl1221 _ _ hn
        refine ox rfl rfl rfl rfl (ex_add rfl rfl rfl) ?_
        refine ox rfl rfl rfl rfl (ex_assign rfl rfl) ?_
        refine ops_nil (at_then ?_)
        refine run_block ?_
        replace HM := HM.empty kOut 44 none
        replace HM := HM.front 4 rfl rfl
        replace HM := HM.front 4 rfl rfl
        replace HM := HM.front 4 rfl rfl
        replace HM := HM.front 4 rfl rfl
        refine run_loop (fun k_ ρ_ w_ => ∃ a1248 : Int, ∃ v1249 : Value, ∃ a1250 : List Out, ∃ a1252 : Int, spec_l3Draw.l1 x0 k_ a1248 a1250 a1252 = some o1212 ∧ ρ_ = [(0, .pointer (some ⟨b0, 0, none⟩)), (2, .pointer (some ⟨b777, 0, none⟩)), (3, .pointer (some ⟨b792, 0, none⟩)), (6, .int .i64 a1252)] ∧ Mem w X w_ [box b0 70 [p0_0, .int .i64 a1248], box b777 28 [.int .i64 0, .int .i64 0, .slice none 0 0, .slice none 0 0], box b792 28 [.int .i64 t784.1, .int .i64 a818, v968, v1249], own kRef 62 v968 a969, own kOut 44 v1249 a1250]) k (ρ1 := [(0, .pointer (some ⟨b0, 0, none⟩)), (2, .pointer (some ⟨b777, 0, none⟩)), (3, .pointer (some ⟨b792, 0, none⟩)), (6, .int .i64 (wrap64 (1 + t1214.1)))]) ⟨_, _, _, _, ho1213, rfl, HM⟩ (Sub.cons rfl (Sub.cons rfl (Sub.cons rfl (Sub.cons rfl Sub.nil)))) ?_
        clear HM ho1213
        rintro k1279 _ w1280 ⟨a1248, v1249, a1250, a1252, ho1213, rfl, HM⟩
        obtain _ | k1279 := k1279
        · exact nomatch ((spec_l3Draw.l1_z x0 a1248 a1250 a1252).symm.trans ho1213)
        replace ho1213 := (spec_l3Draw.l1_s x0 k1279 a1248 a1250 a1252).symm.trans ho1213
        refine run_seq ?_
        refine run_seq ?_
        refine run_region rfl ?_
        refine ox rfl rfl rfl rfl (ex_move rfl rfl) ?_
        refine ox rfl rfl rfl rfl (ex_gtr rfl rfl rfl) ?_
        refine ops_nil (at_then ?_)
        refine run_cond (b := (decide (0 < a1252))) rfl (fun hb1281 => ?_) (fun hb1281 => ?_)
        · replace ho1213 := cond_t hb1281 ho1213
          refine run_skip ?_
          refine at_then ?_
          refine run_seq ?_
          refine run_block ?_
          obtain ⟨t1282, h1283, ho1213⟩ := bind_some ho1213
          obtain ⟨t1290, h1291, ho1213⟩ := bind_some ho1213
          obtain ⟨e1303, ho1213⟩ := chk_some ho1213
          refine run_meet (fun ρ_ w_ => ∃ v1304 : Value, ρ_ = [(0, .pointer (some ⟨b0, 0, none⟩)), (2, .pointer (some ⟨b777, 0, none⟩)), (3, .pointer (some ⟨b792, 0, none⟩)), (6, .int .i64 a1252)] ∧ Mem w X w_ [box b0 70 [p0_0, .int .i64 t1290.2], box b777 28 [.int .i64 0, .int .i64 0, .slice none 0 0, .slice none 0 0], box b792 28 [.int .i64 t784.1, .int .i64 a818, v968, v1304], own kRef 62 v968 a969, own kOut 44 v1304 (a1250 ++ ([(⟨wrap64 (100 + t1282.1), (⟨t1290.1.fKeys, t1290.1.fNeed, t1290.1.fAfter⟩ : Rule)⟩ : Out)] : List Out))]) ?_ ?_
          · skip
            replace HM := HM.front 4 rfl rfl
            replace HM := HM.front 3 rfl rfl
            replace HM := HM.front 2 rfl rfl
            refine run_draw (fun w_ => Mem w X w_ [box b777 28 [.int .i64 0, .int .i64 0, .slice none 0 0, .slice none 0 0], own kRef 62 v968 a969]) mixed rfl (l := #[false, false, false, false, false, false, false, false, false, false, false, false]) rfl ?_
            replace HM := HM.grow (fr_drew _)
            have hS := Mem.suf (M := [box b0 70 [p0_0, .int .i64 a1248], box b792 28 [.int .i64 t784.1, .int .i64 a818, v968, v1249], own kOut 44 v1249 a1250]) HM
            refine drw_cut1 (l' := #[true, true, true, true, true, true, true, true, true, false, false, false]) (f' := 3) (fun (v1300 : Value) => [(0, .pointer (some ⟨b0, 0, none⟩)), (2, .pointer (some ⟨b777, 0, none⟩)), (3, .pointer (some ⟨b792, 0, none⟩)), (6, .int .i64 a1252), (50, v1249), (57, v1300)]) (fun (v1300 : Value) => fun w_ => Mem w X w_ [own kOut 44 v1300 ([(⟨wrap64 (100 + t1282.1), (⟨t1290.1.fKeys, t1290.1.fNeed, t1290.1.fAfter⟩ : Rule)⟩ : Out)] : List Out), box b0 70 [p0_0, .int .i64 t1290.2], box b792 28 [.int .i64 t784.1, .int .i64 a818, v968, v1249], own kOut 44 v1249 a1250, box b777 28 [.int .i64 0, .int .i64 0, .slice none 0 0, .slice none 0 0], own kRef 62 v968 a969]) ?_ (fun K1314 => ?_)
            · rintro v1300 w1315 HM
              replace HM : Mem w X w1315 [own kOut 44 v1300 ([(⟨wrap64 (100 + t1282.1), (⟨t1290.1.fKeys, t1290.1.fNeed, t1290.1.fAfter⟩ : Rule)⟩ : Out)] : List Out), box b0 70 [p0_0, .int .i64 t1290.2], box b792 28 [.int .i64 t784.1, .int .i64 a818, v968, v1249], own kOut 44 v1249 a1250, box b777 28 [.int .i64 0, .int .i64 0, .slice none 0 0, .slice none 0 0], own kRef 62 v968 a969] := HM
              have hS := Mem.suf (M := [own kOut 44 v1300 ([(⟨wrap64 (100 + t1282.1), (⟨t1290.1.fKeys, t1290.1.fNeed, t1290.1.fAfter⟩ : Rule)⟩ : Out)] : List Out), box b0 70 [p0_0, .int .i64 t1290.2], box b792 28 [.int .i64 t784.1, .int .i64 a818, v968, v1249], own kOut 44 v1249 a1250]) HM
              replace HM := HM.front 3 rfl rfl
              refine drw_any [9] (by kernel_rfl) rfl (.cons ?_ .nil)
              refine br_does (l' := #[true, true, true, true, true, true, true, true, true, true, false, false]) rfl (guard_none rfl) rfl rfl (by kernel_rfl) (does_append kOut rfl rfl rfl Tryz.underlying26 tsz44 rfl tby44 tz44 rfl rfl (leB_le e1303) HM) ?_
              rintro v1304 w1316 HM
              have hS := Mem.suf (M := [own kOut 44 v1304 (a1250 ++ ([(⟨wrap64 (100 + t1282.1), (⟨t1290.1.fKeys, t1290.1.fNeed, t1290.1.fAfter⟩ : Rule)⟩ : Out)] : List Out)), box b0 70 [p0_0, .int .i64 t1290.2], box b792 28 [.int .i64 t784.1, .int .i64 a818, v968, v1249]]) HM
              refine ⟨hS, ?_⟩
              refine dt 10 #[true, true, true, true, true, true, true, true, true, true, true, false] rfl rfl rfl rfl (by kernel_rfl) (ex_fieldAddr (off' := 3) rfl rfl Tryz.underlying28 rfl tsz26 rfl) hS ?_
              replace HM := HM.front 2 rfl rfl
              refine drw_any [11] (by kernel_rfl) rfl (.cons ?_ .nil)
              refine br_doesS (l' := #[true, true, true, true, true, true, true, true, true, true, true, true]) rfl (guard_none rfl) rfl (by kernel_rfl) (does_store (vs := [v1304]) (cs' := [.int .i64 t784.1, .int .i64 a818, v968, v1304]) rfl rfl rfl (rd_cells (HM.own_rd 1 rfl)) tsz26 (Ones.rd (HM.own_rd 1 rfl) Ones.nil) rfl rfl HM) ?_
              rintro w1317 HM
              have hS := Mem.suf (M := [box b792 28 [.int .i64 t784.1, .int .i64 a818, v968, v1304], own kOut 44 v1304 (a1250 ++ ([(⟨wrap64 (100 + t1282.1), (⟨t1290.1.fKeys, t1290.1.fNeed, t1290.1.fAfter⟩ : Rule)⟩ : Out)] : List Out)), box b0 70 [p0_0, .int .i64 t1290.2]]) HM
              refine ⟨hS, ?_⟩
              refine drw_done (by kernel_rfl) ?_
              replace HM := HM.front 1 rfl rfl
              replace HM := HM.front 4 rfl rfl
              replace HM := HM.front 2 rfl rfl
              replace HM := HM.front 4 rfl rfl
              replace HM := HM.front 4 rfl rfl
              exact at_meet [(0, .pointer (some ⟨b0, 0, none⟩)), (2, .pointer (some ⟨b777, 0, none⟩)), (3, .pointer (some ⟨b792, 0, none⟩)), (6, .int .i64 a1252)] ⟨_, rfl, HM⟩ (Sub.cons rfl (Sub.cons rfl (Sub.cons rfl (Sub.cons rfl Sub.nil))))
            refine drw_cut1 (l' := #[true, true, true, true, true, true, true, true, false, false, false, false]) (f' := 4) (fun (u1292 : Value) => [(0, .pointer (some ⟨b0, 0, none⟩)), (2, .pointer (some ⟨b777, 0, none⟩)), (3, .pointer (some ⟨b792, 0, none⟩)), (6, .int .i64 a1252), (50, v1249), (56, .agg #[(.int .i64 (wrap64 (100 + t1282.1))), u1292, (.int .i64 t1290.1.fNeed), (.int .i64 t1290.1.fAfter)])]) (fun (u1292 : Value) => fun w_ => Mem w X w_ [own kInt 2 u1292 t1290.1.fKeys, box b0 70 [p0_0, .int .i64 t1290.2], box b792 28 [.int .i64 t784.1, .int .i64 a818, v968, v1249], own kOut 44 v1249 a1250, box b777 28 [.int .i64 0, .int .i64 0, .slice none 0 0, .slice none 0 0], own kRef 62 v968 a969]) ?_ (fun K1318 => ?_)
            · rintro u1292 w1319 HM
              replace HM : Mem w X w1319 [own kInt 2 u1292 t1290.1.fKeys, box b0 70 [p0_0, .int .i64 t1290.2], box b792 28 [.int .i64 t784.1, .int .i64 a818, v968, v1249], own kOut 44 v1249 a1250, box b777 28 [.int .i64 0, .int .i64 0, .slice none 0 0, .slice none 0 0], own kRef 62 v968 a969] := HM
              have hS := Mem.suf (M := [own kInt 2 u1292 t1290.1.fKeys, box b0 70 [p0_0, .int .i64 t1290.2], box b792 28 [.int .i64 t784.1, .int .i64 a818, v968, v1249], own kOut 44 v1249 a1250]) HM
              refine drw_any [8] (by kernel_rfl) rfl (.cons ?_ .nil)
              refine br_does (l' := #[true, true, true, true, true, true, true, true, true, false, false, false]) rfl (guard_none rfl) rfl rfl (by kernel_rfl) (does_lit (e := 44) (cs := [(.int .i64 (wrap64 (100 + t1282.1))), u1292, (.int .i64 t1290.1.fNeed), (.int .i64 t1290.1.fAfter)]) (xs := ([(⟨wrap64 (100 + t1282.1), (⟨t1290.1.fKeys, t1290.1.fNeed, t1290.1.fAfter⟩ : Rule)⟩ : Out)] : List Out)) kOut rfl rfl (fun _ => by kernel_rfl) rfl rfl (fun _ _ h => by have := Elems.cons (d := kOut) (x := (⟨wrap64 (100 + t1282.1), (⟨t1290.1.fKeys, t1290.1.fNeed, t1290.1.fAfter⟩ : Rule)⟩ : Out)) ⟨_, rfl, h⟩ .nil; rw [List.append_nil, List.append_nil] at this; exact this) HM) ?_
              rintro v1300 w1320 HM
              have hS := Mem.suf (M := [own kOut 44 v1300 ([(⟨wrap64 (100 + t1282.1), (⟨t1290.1.fKeys, t1290.1.fNeed, t1290.1.fAfter⟩ : Rule)⟩ : Out)] : List Out), box b0 70 [p0_0, .int .i64 t1290.2], box b792 28 [.int .i64 t784.1, .int .i64 a818, v968, v1249], own kOut 44 v1249 a1250]) HM
              refine ⟨hS, ?_⟩
              exact drw_sub (K1314 v1300 _ HM) (Sub.cons rfl (Sub.cons rfl (Sub.cons rfl (Sub.cons rfl (Sub.cons rfl (Sub.cons rfl Sub.nil))))))
            refine drw_cut0 (l' := #[true, true, true, true, true, true, false, false, false, false, false, false]) (f' := 6) ([(0, .pointer (some ⟨b0, 0, none⟩)), (2, .pointer (some ⟨b777, 0, none⟩)), (3, .pointer (some ⟨b792, 0, none⟩)), (6, .int .i64 a1252), (54, .pointer (some ⟨b0, 0, none⟩)), (50, v1249), (53, .int .i64 (wrap64 (100 + t1282.1)))]) (fun w_ => Mem w X w_ [box b0 70 [p0_0, .int .i64 t1282.2], box b792 28 [.int .i64 t784.1, .int .i64 a818, v968, v1249], own kOut 44 v1249 a1250, box b777 28 [.int .i64 0, .int .i64 0, .slice none 0 0, .slice none 0 0], own kRef 62 v968 a969]) ?_ (fun K1321 => ?_)
            · rintro w1322 HM
              replace HM : Mem w X w1322 [box b0 70 [p0_0, .int .i64 t1282.2], box b792 28 [.int .i64 t784.1, .int .i64 a818, v968, v1249], own kOut 44 v1249 a1250, box b777 28 [.int .i64 0, .int .i64 0, .slice none 0 0, .slice none 0 0], own kRef 62 v968 a969] := HM
              have hS := Mem.suf (M := [box b0 70 [p0_0, .int .i64 t1282.2], box b792 28 [.int .i64 t784.1, .int .i64 a818, v968, v1249], own kOut 44 v1249 a1250]) HM
              obtain ⟨F1294, hF1295, hFn1296, hFl1297, HMh1298, hcl1299⟩ := HM.hide (Ms := [box b0 70 [p0_0, .int .i64 t1282.2]])
              refine drw_any [6] (by kernel_rfl) rfl (.cons ?_ .nil)
              refine br_does (l' := #[true, true, true, true, true, true, true, false, false, false, false, false]) rfl (guard_none rfl) rfl rfl (by kernel_rfl) (does_callk rfl callok38 rfl (spec_l2Draw.calls (x0 := (⟨x0.fCode, t1282.2⟩ : l1Src)) (hide_olds _ _) hF1295 hFn1296 hFl1297 (HMh1298.rdo hwo hp0_0) h1291)) ?_
              rintro _ w1323 ⟨u1292, rfl, hn⟩
              replace HM : Mem w X w1323 [own kInt 2 u1292 t1290.1.fKeys, box b0 70 [p0_0, .int .i64 t1290.2], box b792 28 [.int .i64 t784.1, .int .i64 a818, v968, v1249], own kOut 44 v1249 a1250, box b777 28 [.int .i64 0, .int .i64 0, .slice none 0 0, .slice none 0 0], own kRef 62 v968 a969] := hcl1299 _ _ hn
              have hS := Mem.suf (M := [own kInt 2 u1292 t1290.1.fKeys, box b0 70 [p0_0, .int .i64 t1290.2], box b792 28 [.int .i64 t784.1, .int .i64 a818, v968, v1249], own kOut 44 v1249 a1250]) HM
              refine ⟨hS, ?_⟩
              refine dt 7 #[true, true, true, true, true, true, true, true, false, false, false, false] rfl rfl rfl rfl (by kernel_rfl) (ex_build1 (fun u1292 => [(0, .int .i64 (wrap64 (100 + t1282.1))), (1, .agg #[u1292, (.int .i64 t1290.1.fNeed), (.int .i64 t1290.1.fAfter)])]) (fun u1292 => #[.int .i64 (wrap64 (100 + t1282.1)), u1292, .int .i64 t1290.1.fNeed, .int .i64 t1290.1.fAfter]) rfl rfl (fun _ _ _ => by kernel_rfl) (HM.own_rd 0 rfl).isSl) hS ?_
              exact drw_sub (K1318 u1292 _ HM) (Sub.cons rfl (Sub.cons rfl (Sub.cons rfl (Sub.cons rfl (Sub.cons rfl (Sub.cons rfl Sub.nil))))))
            refine dt 0 #[true, false, false, false, false, false, false, false, false, false, false, false] rfl rfl rfl rfl (by kernel_rfl) (ex_fieldAddr (off' := 3) rfl rfl Tryz.underlying28 rfl tsz26 rfl) hS ?_
            refine dt 2 #[true, false, true, false, false, false, false, false, false, false, false, false] rfl rfl rfl rfl (by kernel_rfl) (ex_move rfl rfl) hS ?_
            refine dt 5 #[true, false, true, false, false, true, false, false, false, false, false, false] rfl rfl rfl rfl (by kernel_rfl) (ex_move rfl rfl) hS ?_
            refine drw_any [1, 3] (by kernel_rfl) rfl (.cons ?_ (.cons ?_ .nil))
            · skip
              refine br_does (l' := #[true, true, true, false, false, true, false, false, false, false, false, false]) rfl (guard_none rfl) rfl rfl (by kernel_rfl) (does_ex' (ex_load1 rfl rfl Tryz.underlying26 rfl ((HM.box_at 1 rfl) 3 _ rfl))) ?_
              rintro _ _ ⟨rfl, rfl⟩
              refine ⟨hS, ?_⟩
              obtain ⟨F1284, hF1285, hFn1286, hFl1287, HMh1288, hcl1289⟩ := HM.hide (Ms := [box b0 70 [p0_0, .int .i64 a1248]])
              refine drw_any [3] (by kernel_rfl) rfl (.cons ?_ .nil)
              refine br_does (l' := #[true, true, true, true, false, true, false, false, false, false, false, false]) rfl (guard_none rfl) rfl rfl (by kernel_rfl) (does_callk rfl callok19 rfl (spec_l1Next.calls (x0 := (⟨x0.fCode, a1248⟩ : l1Src)) (x1 := 99) (hide_olds _ _) hF1285 hFn1286 hFl1287 (HMh1288.rdo hwo hp0_0) h1283)) ?_
              rintro _ w1324 ⟨rfl, hn⟩
              replace HM : Mem w X w1324 [box b0 70 [p0_0, .int .i64 t1282.2], box b792 28 [.int .i64 t784.1, .int .i64 a818, v968, v1249], own kOut 44 v1249 a1250, box b777 28 [.int .i64 0, .int .i64 0, .slice none 0 0, .slice none 0 0], own kRef 62 v968 a969] := hcl1289 _ _ hn
              have hS := Mem.suf (M := [box b0 70 [p0_0, .int .i64 t1282.2], box b792 28 [.int .i64 t784.1, .int .i64 a818, v968, v1249], own kOut 44 v1249 a1250]) HM
              refine ⟨hS, ?_⟩
              refine dt 4 #[true, true, true, true, true, true, false, false, false, false, false, false] rfl rfl rfl rfl (by kernel_rfl) (ex_add rfl rfl rfl) hS ?_
              exact drw_sub (K1321 _ HM) (Sub.cons rfl (Sub.cons rfl (Sub.cons rfl (Sub.cons rfl (Sub.cons rfl (Sub.cons rfl (Sub.cons rfl Sub.nil)))))))
            · skip
              obtain ⟨F1284, hF1285, hFn1286, hFl1287, HMh1288, hcl1289⟩ := HM.hide (Ms := [box b0 70 [p0_0, .int .i64 a1248]])
              refine br_does (l' := #[true, false, true, true, false, true, false, false, false, false, false, false]) rfl (guard_none rfl) rfl rfl (by kernel_rfl) (does_callk rfl callok19 rfl (spec_l1Next.calls (x0 := (⟨x0.fCode, a1248⟩ : l1Src)) (x1 := 99) (hide_olds _ _) hF1285 hFn1286 hFl1287 (HMh1288.rdo hwo hp0_0) h1283)) ?_
              rintro _ w1325 ⟨rfl, hn⟩
              replace HM : Mem w X w1325 [box b0 70 [p0_0, .int .i64 t1282.2], box b792 28 [.int .i64 t784.1, .int .i64 a818, v968, v1249], own kOut 44 v1249 a1250, box b777 28 [.int .i64 0, .int .i64 0, .slice none 0 0, .slice none 0 0], own kRef 62 v968 a969] := hcl1289 _ _ hn
              have hS := Mem.suf (M := [box b0 70 [p0_0, .int .i64 t1282.2], box b792 28 [.int .i64 t784.1, .int .i64 a818, v968, v1249], own kOut 44 v1249 a1250]) HM
              refine ⟨hS, ?_⟩
              refine dt 4 #[true, false, true, true, true, true, false, false, false, false, false, false] rfl rfl rfl rfl (by kernel_rfl) (ex_add rfl rfl rfl) hS ?_
              refine drw_any [1, 6] (by kernel_rfl) rfl (.cons ?_ (.cons ?_ .nil))
              · skip
                refine br_does (l' := #[true, true, true, true, true, true, false, false, false, false, false, false]) rfl (guard_none rfl) rfl rfl (by kernel_rfl) (does_ex' (ex_load1 rfl rfl Tryz.underlying26 rfl ((HM.box_at 1 rfl) 3 _ rfl))) ?_
                rintro _ _ ⟨rfl, rfl⟩
                refine ⟨hS, ?_⟩
                exact drw_sub (K1321 _ HM) (Sub.cons rfl (Sub.cons rfl (Sub.cons rfl (Sub.cons rfl (Sub.cons rfl (Sub.cons rfl (Sub.cons rfl Sub.nil)))))))
              · skip
                obtain ⟨F1294, hF1295, hFn1296, hFl1297, HMh1298, hcl1299⟩ := HM.hide (Ms := [box b0 70 [p0_0, .int .i64 t1282.2]])
                refine br_does (l' := #[true, false, true, true, true, true, true, false, false, false, false, false]) rfl (guard_none rfl) rfl rfl (by kernel_rfl) (does_callk rfl callok38 rfl (spec_l2Draw.calls (x0 := (⟨x0.fCode, t1282.2⟩ : l1Src)) (hide_olds _ _) hF1295 hFn1296 hFl1297 (HMh1298.rdo hwo hp0_0) h1291)) ?_
                rintro _ w1326 ⟨u1292, rfl, hn⟩
                replace HM : Mem w X w1326 [own kInt 2 u1292 t1290.1.fKeys, box b0 70 [p0_0, .int .i64 t1290.2], box b792 28 [.int .i64 t784.1, .int .i64 a818, v968, v1249], own kOut 44 v1249 a1250, box b777 28 [.int .i64 0, .int .i64 0, .slice none 0 0, .slice none 0 0], own kRef 62 v968 a969] := hcl1299 _ _ hn
                have hS := Mem.suf (M := [own kInt 2 u1292 t1290.1.fKeys, box b0 70 [p0_0, .int .i64 t1290.2], box b792 28 [.int .i64 t784.1, .int .i64 a818, v968, v1249], own kOut 44 v1249 a1250]) HM
                refine ⟨hS, ?_⟩
                refine dt 7 #[true, false, true, true, true, true, true, true, false, false, false, false] rfl rfl rfl rfl (by kernel_rfl) (ex_build1 (fun u1292 => [(0, .int .i64 (wrap64 (100 + t1282.1))), (1, .agg #[u1292, (.int .i64 t1290.1.fNeed), (.int .i64 t1290.1.fAfter)])]) (fun u1292 => #[.int .i64 (wrap64 (100 + t1282.1)), u1292, .int .i64 t1290.1.fNeed, .int .i64 t1290.1.fAfter]) rfl rfl (fun _ _ _ => by kernel_rfl) (HM.own_rd 0 rfl).isSl) hS ?_
                refine drw_any [1, 8] (by kernel_rfl) rfl (.cons ?_ (.cons ?_ .nil))
                · skip
                  refine br_does (l' := #[true, true, true, true, true, true, true, true, false, false, false, false]) rfl (guard_none rfl) rfl rfl (by kernel_rfl) (does_ex' (ex_load1 rfl rfl Tryz.underlying26 rfl ((HM.box_at 2 rfl) 3 _ rfl))) ?_
                  rintro _ _ ⟨rfl, rfl⟩
                  refine ⟨hS, ?_⟩
                  exact drw_sub (K1318 u1292 _ HM) (Sub.cons rfl (Sub.cons rfl (Sub.cons rfl (Sub.cons rfl (Sub.cons rfl (Sub.cons rfl Sub.nil))))))
                · skip
                  refine br_does (l' := #[true, false, true, true, true, true, true, true, true, false, false, false]) rfl (guard_none rfl) rfl rfl (by kernel_rfl) (does_lit (e := 44) (cs := [(.int .i64 (wrap64 (100 + t1282.1))), u1292, (.int .i64 t1290.1.fNeed), (.int .i64 t1290.1.fAfter)]) (xs := ([(⟨wrap64 (100 + t1282.1), (⟨t1290.1.fKeys, t1290.1.fNeed, t1290.1.fAfter⟩ : Rule)⟩ : Out)] : List Out)) kOut rfl rfl (fun _ => by kernel_rfl) rfl rfl (fun _ _ h => by have := Elems.cons (d := kOut) (x := (⟨wrap64 (100 + t1282.1), (⟨t1290.1.fKeys, t1290.1.fNeed, t1290.1.fAfter⟩ : Rule)⟩ : Out)) ⟨_, rfl, h⟩ .nil; rw [List.append_nil, List.append_nil] at this; exact this) HM) ?_
                  rintro v1300 w1327 HM
                  have hS := Mem.suf (M := [own kOut 44 v1300 ([(⟨wrap64 (100 + t1282.1), (⟨t1290.1.fKeys, t1290.1.fNeed, t1290.1.fAfter⟩ : Rule)⟩ : Out)] : List Out), box b0 70 [p0_0, .int .i64 t1290.2], box b792 28 [.int .i64 t784.1, .int .i64 a818, v968, v1249], own kOut 44 v1249 a1250]) HM
                  refine ⟨hS, ?_⟩
                  refine drw_any [1] (by kernel_rfl) rfl (.cons ?_ .nil)
                  refine br_does (l' := #[true, true, true, true, true, true, true, true, true, false, false, false]) rfl (guard_none rfl) rfl rfl (by kernel_rfl) (does_ex' (ex_load1 rfl rfl Tryz.underlying26 rfl ((HM.box_at 2 rfl) 3 _ rfl))) ?_
                  rintro _ _ ⟨rfl, rfl⟩
                  refine ⟨hS, ?_⟩
                  exact drw_sub (K1314 v1300 _ HM) (Sub.cons rfl (Sub.cons rfl (Sub.cons rfl (Sub.cons rfl (Sub.cons rfl (Sub.cons rfl Sub.nil))))))
          · rintro _ w1328 ⟨v1304, rfl, HM⟩
            refine at_block ?_
            refine at_then ?_
            refine run_region rfl ?_
            refine ox rfl rfl rfl rfl (ex_move rfl rfl) ?_
            refine ox rfl rfl rfl rfl (ex_sub rfl rfl rfl) ?_
            refine ox rfl rfl rfl rfl (ex_assign rfl rfl) ?_
            refine ops_nil ?_
            exact at_again k1279 (ρ1 := [(0, .pointer (some ⟨b0, 0, none⟩)), (2, .pointer (some ⟨b777, 0, none⟩)), (3, .pointer (some ⟨b792, 0, none⟩)), (6, .int .i64 (wrap64 (a1252 - 1)))]) (Nat.lt_succ_self _) ⟨_, _, _, _, ho1213, rfl, HM⟩ (Sub.cons rfl (Sub.cons rfl (Sub.cons rfl (Sub.cons rfl Sub.nil))))
        · replace ho1213 := cond_f hb1281 ho1213
          refine run_exit ?_
          refine at_then_exit ?_
          refine at_then_exit ?_
          refine at_block_exit ?_
          exact at_mid (ρ' := [(2, .pointer (some ⟨b777, 0, none⟩)), (3, .pointer (some ⟨b792, 0, none⟩))]) ⟨_, _, _, (Option.some.inj ho1213), rfl, HM⟩ (Sub.cons rfl (Sub.cons rfl Sub.nil))
      · rintro _ w1329 ⟨a1208, v1209, a1210, rfl, rfl, HM⟩
        replace H := cur2_mk H
        refine run_seq ?_
        refine run_region rfl ?_
        refine ox rfl rfl rfl rfl (ex_loadN (cs := [(.int .i64 t784.1), (.int .i64 a818), v968, v1209]) rfl rfl Tryz.underlying28 rfl tsz28 rfl ((HM.box_at 2 rfl).sub 0 4 rfl)) ?_
        replace HM := HM.front 1 rfl rfl
        refine odS rfl rfl rfl (does_store (vs := [.int .i64 t784.1, .int .i64 a818, v968, v1209]) (cs' := [.int .i64 t784.1, .int .i64 a818, v968, v1209]) rfl rfl rfl rfl tsz28 (Ones.int (Ones.int (Ones.rd (HM.own_rd 3 rfl) (Ones.rd (HM.own_rd 4 rfl) Ones.nil)))) rfl rfl HM) ?_
        rintro w1330 HM
        refine ops_nil (at_then ?_)
        refine run_ret ?_
        replace HM := (HM.front 2 rfl rfl).drop
        replace HM := HM.front 1 rfl rfl
        replace HM := HM.front 3 rfl rfl
        replace HM := HM.front 3 rfl rfl
        replace HM := HM.front 3 rfl rfl
        have hcb0 := HM.box_at 0 rfl
        replace HM := (HM.front 0 rfl rfl).drop
        have hR := Option.some.inj H
        subst hR
        exact at_retN rfl rfl Tryz.underlying28 rfl tsz28 rfl hcb0 ⟨_, rfl, _, _, rfl, HM⟩

def spec_l2Digits.f : Nat → Int → Option ByteArray
  | 0, _ => none
  | k + 1, x0 => (bif (decide (x0 < 10)) then some (strOfNums ([IntKind.u8.wrap (wrap64 (48 + x0))] : List Int)) else (chk ((10 : Int) != 0) (chk ((10 : Int) != 0) ((spec_l2Digits.f k (IntKind.i64.wrap (Int.tdiv x0 (10 : Int)))).bind fun t1378 => (chk (leB (t1378.size + (strOfNums ([IntKind.u8.wrap (wrap64 (48 + (Int.tmod x0 (10 : Int))))] : List Int)).size) 9223372036854775807) (some (t1378 ++ (strOfNums ([IntKind.u8.wrap (wrap64 (48 + (Int.tmod x0 (10 : Int))))] : List Int)))))))))
theorem spec_l2Digits.f_s (k : Nat) (x0 : Int) : spec_l2Digits.f (k + 1) x0 = (bif (decide (x0 < 10)) then some (strOfNums ([IntKind.u8.wrap (wrap64 (48 + x0))] : List Int)) else (chk ((10 : Int) != 0) (chk ((10 : Int) != 0) ((spec_l2Digits.f k (IntKind.i64.wrap (Int.tdiv x0 (10 : Int)))).bind fun t1378 => (chk (leB (t1378.size + (strOfNums ([IntKind.u8.wrap (wrap64 (48 + (Int.tmod x0 (10 : Int))))] : List Int)).size) 9223372036854775807) (some (t1378 ++ (strOfNums ([IntKind.u8.wrap (wrap64 (48 + (Int.tmod x0 (10 : Int))))] : List Int))))))))) := rfl
theorem spec_l2Digits.calls_all : ∀ (k : Nat) (x0 : Int), ∀ {w : World} {r : ByteArray} (H : spec_l2Digits.f k x0 = some r),
    Calls Tryz.prog 39 ([.int .i64 x0] : List Value).toArray w (fun e w_ => ∃ v, e = .returned v ∧ v = (.string r) ∧ Mem w [] w_ []) := by
  intro k
  induction k with
  | zero => intro x0  w  r H; exact nomatch H
  | succ k ih =>
  intro x0  w  r H
  have HM := Mem.start w
  refine calls_run (N := 20) Tryz.func39 rfl rfl rfl rfl ?_
  rw [spec_l2Digits.f_s] at H
  refine run_seq ?_
  refine run_region rfl ?_
  refine ox rfl rfl rfl rfl (ex_assign rfl rfl) ?_
  refine ops_nil (at_then (run_seq ?_))
  refine run_seq ?_
  refine run_region rfl ?_
  refine ox rfl rfl rfl rfl (ex_move rfl rfl) ?_
  refine ox rfl rfl rfl rfl (ex_lss rfl rfl rfl) ?_
  refine ops_nil (at_then ?_)
  refine run_cond (b := (decide (x0 < 10))) rfl (fun hb1371 => ?_) (fun hb1371 => ?_)
  · replace H := cond_t hb1371 H
    refine run_seq ?_
    refine run_region rfl ?_
    refine ox rfl rfl rfl rfl (ex_move rfl rfl) ?_
    refine ox rfl rfl rfl rfl (ex_add rfl rfl rfl) ?_
    refine ox rfl rfl rfl rfl (ex_conv rfl rfl (by rw [Tryz.underlying2]; rfl) Tryz.underlying5) ?_
    refine od rfl rfl rfl rfl (does_lit (e := 5) (cs := [.int .u8 (IntKind.u8.wrap (wrap64 (48 + x0)))]) (xs := ([IntKind.u8.wrap (wrap64 (48 + x0))] : List Int)) kU8 rfl rfl (fun _ => by kernel_rfl) rfl rfl (fun _ _ h => by have h' : _ = [] := h; subst h'; exact (Elems.cons (d := kU8) (x := IntKind.u8.wrap (wrap64 (48 + x0))) (f := []) ⟨rfl, rfl⟩ .nil)) HM.emp) ?_
    rintro v1372 w1375 HM
    refine ox rfl rfl rfl rfl (ex_bstr (e := 5) rfl rfl Tryz.underlying22 Tryz.underlying5 Tryz.underlying9 (HM.own_rd 0 rfl)) ?_
    refine ox rfl rfl rfl rfl (ex_assign rfl rfl) ?_
    refine ops_nil (at_then ?_)
    refine run_ret ?_
    refine at_then_ret ?_
    replace HM := (HM.front 0 rfl rfl).drop
    have hR := Option.some.inj H
    subst hR
    exact at_ret1 rfl rfl ⟨_, rfl, rfl, HM⟩
  · replace H := cond_f hb1371 H
    refine run_skip ?_
    refine at_then ?_
    refine run_seq ?_
    obtain ⟨e1376, H⟩ := chk_some H
    obtain ⟨e1377, H⟩ := chk_some H
    obtain ⟨t1378, h1379, H⟩ := bind_some H
    obtain ⟨e1383, H⟩ := chk_some H
    refine run_meet (fun ρ_ w_ => ρ_ = [(2, .string (t1378 ++ (strOfNums ([IntKind.u8.wrap (wrap64 (48 + (Int.tmod x0 (10 : Int))))] : List Int))))] ∧ Mem w [] w_ []) ?_ ?_
    · skip
      refine run_draw (fun w_ => Mem w [] w_ []) mixed rfl (l := #[false, false, false, false, false, false, false, false, false, false, false]) rfl ?_
      replace HM := HM.grow (fr_drew _)
      have hS := Mem.suf (M := []) HM
      refine drw_cut1 (l' := #[true, true, true, true, true, true, true, true, true, false, false]) (f' := 2) (fun (v1380 : Value) => [(2, .string (⟨#[]⟩ : ByteArray)), (12, .string t1378), (18, .string (strOfNums ([IntKind.u8.wrap (wrap64 (48 + (Int.tmod x0 (10 : Int))))] : List Int)))]) (fun (v1380 : Value) => fun w_ => Mem w [] w_ [own kU8 5 v1380 ([IntKind.u8.wrap (wrap64 (48 + (Int.tmod x0 (10 : Int))))] : List Int)]) ?_ (fun K1389 => ?_)
      · rintro v1380 w1390 HM
        replace HM : Mem w [] w1390 [own kU8 5 v1380 ([IntKind.u8.wrap (wrap64 (48 + (Int.tmod x0 (10 : Int))))] : List Int)] := HM
        have hS := Mem.suf (M := [own kU8 5 v1380 ([IntKind.u8.wrap (wrap64 (48 + (Int.tmod x0 (10 : Int))))] : List Int)]) HM
        refine dt 9 #[true, true, true, true, true, true, true, true, true, true, false] rfl rfl rfl rfl (by kernel_rfl) (ex_sadd rfl rfl rfl (leB_le e1383)) hS ?_
        refine dt 10 #[true, true, true, true, true, true, true, true, true, true, true] rfl rfl rfl rfl (by kernel_rfl) (ex_assign rfl rfl) hS ?_
        refine drw_done (by kernel_rfl) ?_
        replace HM := (HM.front 0 rfl rfl).drop
        exact at_meet [(2, .string (t1378 ++ (strOfNums ([IntKind.u8.wrap (wrap64 (48 + (Int.tmod x0 (10 : Int))))] : List Int))))] ⟨rfl, HM⟩ (Sub.cons rfl Sub.nil)
      refine drw_cut1 (l' := #[true, true, true, true, true, true, true, true, false, false, false]) (f' := 3) (fun (v1380 : Value) => [(2, .string (⟨#[]⟩ : ByteArray)), (12, .string t1378), (17, v1380)]) (fun (v1380 : Value) => fun w_ => Mem w [] w_ [own kU8 5 v1380 ([IntKind.u8.wrap (wrap64 (48 + (Int.tmod x0 (10 : Int))))] : List Int)]) ?_ (fun K1391 => ?_)
      · rintro v1380 w1392 HM
        replace HM : Mem w [] w1392 [own kU8 5 v1380 ([IntKind.u8.wrap (wrap64 (48 + (Int.tmod x0 (10 : Int))))] : List Int)] := HM
        have hS := Mem.suf (M := [own kU8 5 v1380 ([IntKind.u8.wrap (wrap64 (48 + (Int.tmod x0 (10 : Int))))] : List Int)]) HM
        refine drw_any [8] (by kernel_rfl) rfl (.cons ?_ .nil)
        refine br_does (l' := #[true, true, true, true, true, true, true, true, true, false, false]) rfl (guard_none rfl) rfl rfl (by kernel_rfl) (does_ex' (ex_bstr (e := 5) rfl rfl Tryz.underlying22 Tryz.underlying5 Tryz.underlying9 (HM.own_rd 0 rfl))) ?_
        rintro _ _ ⟨rfl, rfl⟩
        refine ⟨hS, ?_⟩
        exact drw_sub (K1389 v1380 _ HM) (Sub.cons rfl (Sub.cons rfl (Sub.cons rfl Sub.nil)))
      refine dt 0 #[true, false, false, false, false, false, false, false, false, false, false] rfl rfl rfl rfl (by kernel_rfl) (ex_move rfl rfl) hS ?_
      refine dt 1 #[true, true, false, false, false, false, false, false, false, false, false] rfl rfl rfl rfl (by kernel_rfl) (ex_quok rfl rfl rfl e1376) hS ?_
      refine dt 3 #[true, true, false, true, false, false, false, false, false, false, false] rfl rfl rfl rfl (by kernel_rfl) (ex_move rfl rfl) hS ?_
      refine dt 4 #[true, true, false, true, true, false, false, false, false, false, false] rfl rfl rfl rfl (by kernel_rfl) (ex_remk rfl rfl rfl e1377) hS ?_
      refine dt 5 #[true, true, false, true, true, true, false, false, false, false, false] rfl rfl rfl rfl (by kernel_rfl) (ex_add rfl rfl rfl) hS ?_
      refine dt 6 #[true, true, false, true, true, true, true, false, false, false, false] rfl rfl rfl rfl (by kernel_rfl) (ex_conv rfl rfl (by rw [Tryz.underlying2]; rfl) Tryz.underlying5) hS ?_
      refine drw_any [2, 7] (by kernel_rfl) rfl (.cons ?_ (.cons ?_ .nil))
      · skip
        refine br_does (l' := #[true, true, true, true, true, true, true, false, false, false, false]) rfl (guard_none rfl) rfl rfl (by kernel_rfl) (does_callk rfl callok39 rfl (ih (IntKind.i64.wrap (Int.tdiv x0 (10 : Int))) h1379)) ?_
        rintro _ w1393 ⟨rfl, hn⟩
        replace HM : Mem w [] w1393 [] := HM.call hn
        have hS := Mem.suf (M := []) HM
        refine ⟨hS, ?_⟩
        refine drw_any [7] (by kernel_rfl) rfl (.cons ?_ .nil)
        refine br_does (l' := #[true, true, true, true, true, true, true, true, false, false, false]) rfl (guard_none rfl) rfl rfl (by kernel_rfl) (does_lit (e := 5) (cs := [.int .u8 (IntKind.u8.wrap (wrap64 (48 + (Int.tmod x0 (10 : Int)))))]) (xs := ([IntKind.u8.wrap (wrap64 (48 + (Int.tmod x0 (10 : Int))))] : List Int)) kU8 rfl rfl (fun _ => by kernel_rfl) rfl rfl (fun _ _ h => by have h' : _ = [] := h; subst h'; exact (Elems.cons (d := kU8) (x := IntKind.u8.wrap (wrap64 (48 + (Int.tmod x0 (10 : Int))))) (f := []) ⟨rfl, rfl⟩ .nil)) HM.emp) ?_
        rintro v1380 w1394 HM
        have hS := Mem.suf (M := [own kU8 5 v1380 ([IntKind.u8.wrap (wrap64 (48 + (Int.tmod x0 (10 : Int))))] : List Int)]) HM
        refine ⟨hS, ?_⟩
        exact drw_sub (K1391 v1380 _ HM) (Sub.cons rfl (Sub.cons rfl (Sub.cons rfl Sub.nil)))
      · skip
        refine br_does (l' := #[true, true, false, true, true, true, true, true, false, false, false]) rfl (guard_none rfl) rfl rfl (by kernel_rfl) (does_lit (e := 5) (cs := [.int .u8 (IntKind.u8.wrap (wrap64 (48 + (Int.tmod x0 (10 : Int)))))]) (xs := ([IntKind.u8.wrap (wrap64 (48 + (Int.tmod x0 (10 : Int))))] : List Int)) kU8 rfl rfl (fun _ => by kernel_rfl) rfl rfl (fun _ _ h => by have h' : _ = [] := h; subst h'; exact (Elems.cons (d := kU8) (x := IntKind.u8.wrap (wrap64 (48 + (Int.tmod x0 (10 : Int))))) (f := []) ⟨rfl, rfl⟩ .nil)) HM.emp) ?_
        rintro v1380 w1395 HM
        have hS := Mem.suf (M := [own kU8 5 v1380 ([IntKind.u8.wrap (wrap64 (48 + (Int.tmod x0 (10 : Int))))] : List Int)]) HM
        refine ⟨hS, ?_⟩
        refine drw_any [2, 8] (by kernel_rfl) rfl (.cons ?_ (.cons ?_ .nil))
        · skip
          refine br_does (l' := #[true, true, true, true, true, true, true, true, false, false, false]) rfl (guard_none rfl) rfl rfl (by kernel_rfl) (does_callk rfl callok39 rfl (ih (IntKind.i64.wrap (Int.tdiv x0 (10 : Int))) h1379)) ?_
          rintro _ w1396 ⟨rfl, hn⟩
          replace HM : Mem w [] w1396 [own kU8 5 v1380 ([IntKind.u8.wrap (wrap64 (48 + (Int.tmod x0 (10 : Int))))] : List Int)] := HM.call hn
          have hS := Mem.suf (M := [own kU8 5 v1380 ([IntKind.u8.wrap (wrap64 (48 + (Int.tmod x0 (10 : Int))))] : List Int)]) HM
          refine ⟨hS, ?_⟩
          exact drw_sub (K1391 v1380 _ HM) (Sub.cons rfl (Sub.cons rfl (Sub.cons rfl Sub.nil)))
        · skip
          refine br_does (l' := #[true, true, false, true, true, true, true, true, true, false, false]) rfl (guard_none rfl) rfl rfl (by kernel_rfl) (does_ex' (ex_bstr (e := 5) rfl rfl Tryz.underlying22 Tryz.underlying5 Tryz.underlying9 (HM.own_rd 0 rfl))) ?_
          rintro _ _ ⟨rfl, rfl⟩
          refine ⟨hS, ?_⟩
          refine drw_any [2] (by kernel_rfl) rfl (.cons ?_ .nil)
          refine br_does (l' := #[true, true, true, true, true, true, true, true, true, false, false]) rfl (guard_none rfl) rfl rfl (by kernel_rfl) (does_callk rfl callok39 rfl (ih (IntKind.i64.wrap (Int.tdiv x0 (10 : Int))) h1379)) ?_
          rintro _ w1397 ⟨rfl, hn⟩
          replace HM : Mem w [] w1397 [own kU8 5 v1380 ([IntKind.u8.wrap (wrap64 (48 + (Int.tmod x0 (10 : Int))))] : List Int)] := HM.call hn
          have hS := Mem.suf (M := [own kU8 5 v1380 ([IntKind.u8.wrap (wrap64 (48 + (Int.tmod x0 (10 : Int))))] : List Int)]) HM
          refine ⟨hS, ?_⟩
          exact drw_sub (K1389 v1380 _ HM) (Sub.cons rfl (Sub.cons rfl (Sub.cons rfl Sub.nil)))
    · rintro _ w1398 ⟨rfl, HM⟩
      refine at_then ?_
      refine run_ret ?_
      have hR := Option.some.inj H
      subst hR
      exact at_ret1 rfl rfl ⟨_, rfl, rfl, HM⟩
theorem spec_l2Digits.calls {k : Nat} {x0 : Int}  {w : World}  {r : ByteArray} (H : spec_l2Digits.f k x0 = some r) :
    Calls Tryz.prog 39 ([.int .i64 x0] : List Value).toArray w (fun e w_ => ∃ v, e = .returned v ∧ v = (.string r) ∧ Mem w [] w_ []) := spec_l2Digits.calls_all k x0  H

def spec_l2Text.l0 (x0 : Rule) : Nat → ByteArray → Int → Option ByteArray
  | 0, _, _ => none
  | k + 1, a1564, a1565 => (bif (decide (a1565 < (x0.fKeys.length : Int))) then (chk (leB (a1564.size + (⟨#[44]⟩ : ByteArray).size) 9223372036854775807) (chk (idxOk a1565 x0.fKeys.length) ((spec_l2Digits.f k (gt x0.fKeys a1565)).bind fun t1579 => (chk (leB ((a1564 ++ (⟨#[44]⟩ : ByteArray)).size + t1579.size) 9223372036854775807) (spec_l2Text.l0 x0 k ((a1564 ++ (⟨#[44]⟩ : ByteArray)) ++ t1579) (wrap64 (a1565 + 1))))))) else some a1564)
theorem spec_l2Text.l0_z (x0 : Rule) (a1564 : ByteArray) (a1565 : Int) : spec_l2Text.l0 x0 0 a1564 a1565 = none := rfl
theorem spec_l2Text.l0_s (x0 : Rule) (k : Nat) (a1564 : ByteArray) (a1565 : Int) : spec_l2Text.l0 x0 (k + 1) a1564 a1565 = (bif (decide (a1565 < (x0.fKeys.length : Int))) then (chk (leB (a1564.size + (⟨#[44]⟩ : ByteArray).size) 9223372036854775807) (chk (idxOk a1565 x0.fKeys.length) ((spec_l2Digits.f k (gt x0.fKeys a1565)).bind fun t1579 => (chk (leB ((a1564 ++ (⟨#[44]⟩ : ByteArray)).size + t1579.size) 9223372036854775807) (spec_l2Text.l0 x0 k ((a1564 ++ (⟨#[44]⟩ : ByteArray)) ++ t1579) (wrap64 (a1565 + 1))))))) else some a1564) := rfl
def spec_l2Text.f (k : Nat) (x0 : Rule) : Option ByteArray := (chk (idxOk (0 : Int) x0.fKeys.length) ((spec_l2Digits.f k x0.fNeed).bind fun t1523 => (chk (leB (t1523.size + (⟨#[32, 111, 102, 32]⟩ : ByteArray).size) 9223372036854775807) ((spec_l2Digits.f k (gt x0.fKeys (0 : Int))).bind fun t1526 => (chk (leB ((t1523 ++ (⟨#[32, 111, 102, 32]⟩ : ByteArray)).size + t1526.size) 9223372036854775807) ((spec_l2Text.l0 x0 k ((t1523 ++ (⟨#[32, 111, 102, 32]⟩ : ByteArray)) ++ t1526) 1).bind (fun a1554 => (bif (x0.fAfter != 0) then (chk (leB (a1554.size + (⟨#[32, 97, 102, 116, 101, 114, 32]⟩ : ByteArray).size) 9223372036854775807) ((spec_l2Digits.f k x0.fAfter).bind fun t1586 => (chk (leB ((a1554 ++ (⟨#[32, 97, 102, 116, 101, 114, 32]⟩ : ByteArray)).size + t1586.size) 9223372036854775807) (some ((a1554 ++ (⟨#[32, 97, 102, 116, 101, 114, 32]⟩ : ByteArray)) ++ t1586))))) else some a1554))))))))
theorem spec_l2Text.calls {k : Nat} {x0 : Rule} {b0 f0 : Nat} {p0_0 : Value} {w : World} (hc0 : CellsAt w b0 f0 [p0_0, .int .i64 x0.fNeed, .int .i64 x0.fAfter]) (hp0_0 : RdS kInt w p0_0 x0.fKeys) {r : ByteArray} (H : spec_l2Text.f k x0 = some r) :
    Calls Tryz.prog 41 ([.pointer (some ⟨b0, f0, none⟩)] : List Value).toArray w (fun e w_ => ∃ v, e = .returned v ∧ v = (.string r) ∧ Mem w [] w_ []) := by
  have HM := Mem.start w
  refine calls_run (N := 53) Tryz.func41 rfl rfl rfl rfl ?_
  unfold spec_l2Text.f at H
  refine run_seq ?_
  refine run_region rfl ?_
  refine ox rfl rfl rfl rfl (ex_assign rfl rfl) ?_
  refine ops_nil (at_then (run_seq ?_))
  obtain ⟨e1521, H⟩ := chk_some H
  obtain ⟨t1523, h1524, H⟩ := bind_some H
  obtain ⟨e1525, H⟩ := chk_some H
  obtain ⟨t1526, h1527, H⟩ := bind_some H
  obtain ⟨e1528, H⟩ := chk_some H
  refine run_drawf (fun w_ => Mem w [] w_ []) [(0, true), (1, true), (2, true), (3, true), (6, true), (7, true), (8, true), (9, true), (10, true), (11, true), (4, false), (5, true), (12, false), (13, true), (14, true)] mixed rfl rfl (by kernel_rfl) ?_
  replace HM := HM.grow (fr_drew _)
  have hS := Mem.suf (M := []) HM
  refine dp rfl rfl rfl rfl (ex_move rfl rfl) hS ?_
  refine dp rfl rfl rfl rfl (ex_nilCheck rfl rfl) hS ?_
  refine dp rfl rfl rfl rfl (ex_fieldAddr (off' := f0 + 1) rfl rfl Tryz.underlying42 rfl tsz2 rfl) hS ?_
  refine drwp_take rfl (guard_none rfl) rfl rfl (fun w_ hS_ => (ex_load1 rfl rfl Tryz.underlying2 rfl ((hS_.at_ hc0) 1 _ rfl))) hS ?_
  refine dp rfl rfl rfl rfl (ex_move rfl rfl) hS ?_
  refine dp rfl rfl rfl rfl (ex_nilCheck rfl rfl) hS ?_
  refine dp rfl rfl rfl rfl (ex_fieldAddr (off' := f0) rfl rfl Tryz.underlying42 rfl tsz40 rfl) hS ?_
  refine drwp_take rfl (guard_none rfl) rfl rfl (fun w_ hS_ => (ex_load1 rfl rfl Tryz.underlying40 rfl ((hS_.at_ hc0) 0 _ rfl))) hS ?_
  have hc1522 : CellsAt _ (sb p0_0) (so p0_0 + ((0 : Int)).toNat * 1) [(.int .i64 (gt x0.fKeys (0 : Int)))] := rd_plain hp0_0 e1521
  refine dp rfl rfl rfl rfl (ex_indexAddr (d := kInt) rfl rfl rfl Tryz.underlying40 tsz2 hp0_0 (idx_lo e1521) (idx_hi e1521)) hS ?_
  refine drwp_take rfl (guard_none rfl) rfl rfl (fun w_ hS_ => (ex_load1 rfl rfl Tryz.underlying2 rfl ((hS_.at_ hc1522) 0 _ rfl))) hS ?_
  refine drwp_one rfl (guard_none rfl) rfl rfl (does_callk rfl callok39 rfl (spec_l2Digits.calls (x0 := x0.fNeed) h1524)) ?_
  rintro _ w1529 ⟨rfl, hn⟩
  replace HM : Mem w [] w1529 [] := HM.call hn
  have hS := Mem.suf (M := []) HM
  refine ⟨hS, ?_⟩
  refine dp rfl rfl rfl rfl (ex_sadd rfl rfl rfl (leB_le e1525)) hS ?_
  refine drwp_one rfl (guard_none rfl) rfl rfl (does_callk rfl callok39 rfl (spec_l2Digits.calls (x0 := (gt x0.fKeys (0 : Int))) h1527)) ?_
  rintro _ w1530 ⟨rfl, hn⟩
  replace HM : Mem w [] w1530 [] := HM.call hn
  have hS := Mem.suf (M := []) HM
  refine ⟨hS, ?_⟩
  refine dp rfl rfl rfl rfl (ex_sadd rfl rfl rfl (leB_le e1528)) hS ?_
  refine dp rfl rfl rfl rfl (ex_assign rfl rfl) hS ?_
  refine drwp_done ?_
  refine at_then ?_
  obtain ⟨o1555, ho1556, H⟩ := bind_some H
  refine run_mid (fun ρ_ w_ => ∃ a1554 : ByteArray, a1554 = o1555 ∧ ρ_ = [(0, .pointer (some ⟨b0, f0, none⟩)), (3, .string a1554)] ∧ Mem w [] w_ []) ?_ ?_
  · clear H
    refine run_seq ?_
    refine run_region rfl ?_
    refine ox rfl rfl rfl rfl (ex_assign rfl rfl) ?_
    refine ops_nil (at_then ?_)
    refine run_block ?_
    refine run_loop (fun k_ ρ_ w_ => ∃ a1564 : ByteArray, ∃ a1565 : Int, spec_l2Text.l0 x0 k_ a1564 a1565 = some o1555 ∧ ρ_ = [(0, .pointer (some ⟨b0, f0, none⟩)), (3, .string a1564), (4, .int .i64 a1565)] ∧ Mem w [] w_ []) k (ρ1 := [(0, .pointer (some ⟨b0, f0, none⟩)), (3, .string ((t1523 ++ (⟨#[32, 111, 102, 32]⟩ : ByteArray)) ++ t1526)), (4, .int .i64 1)]) ⟨_, _, ho1556, rfl, HM⟩ (Sub.cons rfl (Sub.cons rfl (Sub.cons rfl Sub.nil))) ?_
    clear HM ho1556
    rintro k1573 _ w1574 ⟨a1564, a1565, ho1556, rfl, HM⟩
    obtain _ | k1573 := k1573
    · exact nomatch ((spec_l2Text.l0_z x0 a1564 a1565).symm.trans ho1556)
    replace ho1556 := (spec_l2Text.l0_s x0 k1573 a1564 a1565).symm.trans ho1556
    refine run_seq ?_
    refine run_seq ?_
    refine run_region rfl ?_
    refine ox rfl rfl rfl rfl (ex_move rfl rfl) ?_
    refine ox rfl rfl rfl rfl (ex_move rfl rfl) ?_
    refine ox rfl rfl rfl rfl (ex_nilCheck rfl rfl) ?_
    refine ox rfl rfl rfl rfl (ex_fieldAddr (off' := f0) rfl rfl Tryz.underlying42 rfl tsz40 rfl) ?_
    refine ox rfl rfl rfl rfl (ex_load1 rfl rfl Tryz.underlying40 rfl ((HM.at_ hc0) 0 _ rfl)) ?_
    refine ox rfl rfl rfl rfl (ex_len (d := kInt) (xs := x0.fKeys) rfl rfl Tryz.underlying40 hp0_0) ?_
    refine ox rfl rfl rfl rfl (ex_lss rfl rfl rfl) ?_
    refine ops_nil (at_then ?_)
    refine run_cond (b := (decide (a1565 < (x0.fKeys.length : Int)))) rfl (fun hb1575 => ?_) (fun hb1575 => ?_)
    · replace ho1556 := cond_t hb1575 ho1556
      refine run_skip ?_
      refine at_then ?_
      refine run_seq ?_
      refine run_block ?_
      obtain ⟨e1576, ho1556⟩ := chk_some ho1556
      obtain ⟨e1577, ho1556⟩ := chk_some ho1556
      obtain ⟨t1579, h1580, ho1556⟩ := bind_some ho1556
      obtain ⟨e1581, ho1556⟩ := chk_some ho1556
      refine run_region rfl ?_
      refine ox rfl rfl rfl rfl (ex_move rfl rfl) ?_
      refine ox rfl rfl rfl rfl (ex_sadd rfl rfl rfl (leB_le e1576)) ?_
      refine ox rfl rfl rfl rfl (ex_move rfl rfl) ?_
      refine ox rfl rfl rfl rfl (ex_nilCheck rfl rfl) ?_
      refine ox rfl rfl rfl rfl (ex_fieldAddr (off' := f0) rfl rfl Tryz.underlying42 rfl tsz40 rfl) ?_
      refine ox rfl rfl rfl rfl (ex_load1 rfl rfl Tryz.underlying40 rfl ((HM.at_ hc0) 0 _ rfl)) ?_
      refine ox rfl rfl rfl rfl (ex_move rfl rfl) ?_
      have hc1578 : CellsAt _ (sb p0_0) (so p0_0 + (a1565).toNat * 1) [(.int .i64 (gt x0.fKeys a1565))] := rd_plain hp0_0 e1577
      refine ox rfl rfl rfl rfl (ex_indexAddr (d := kInt) rfl rfl rfl Tryz.underlying40 tsz2 hp0_0 (idx_lo e1577) (idx_hi e1577)) ?_
      refine ox rfl rfl rfl rfl (ex_load1 rfl rfl Tryz.underlying2 rfl ((HM.at_ hc1578) 0 _ rfl)) ?_
      refine od rfl rfl rfl rfl (does_callk rfl callok39 rfl (spec_l2Digits.calls (x0 := (gt x0.fKeys a1565)) h1580)) ?_
      rintro _ w1582 ⟨rfl, hn⟩
      replace HM : Mem w [] w1582 [] := HM.call hn
      refine ox rfl rfl rfl rfl (ex_sadd rfl rfl rfl (leB_le e1581)) ?_
      refine ox rfl rfl rfl rfl (ex_assign rfl rfl) ?_
      refine ops_nil ?_
      refine at_block ?_
      refine at_then ?_
      refine run_region rfl ?_
      refine ox rfl rfl rfl rfl (ex_move rfl rfl) ?_
      refine ox rfl rfl rfl rfl (ex_add rfl rfl rfl) ?_
      refine ox rfl rfl rfl rfl (ex_assign rfl rfl) ?_
      refine ops_nil ?_
      exact at_again k1573 (ρ1 := [(0, .pointer (some ⟨b0, f0, none⟩)), (3, .string ((a1564 ++ (⟨#[44]⟩ : ByteArray)) ++ t1579)), (4, .int .i64 (wrap64 (a1565 + 1)))]) (Nat.lt_succ_self _) ⟨_, _, ho1556, rfl, HM⟩ (Sub.cons rfl (Sub.cons rfl (Sub.cons rfl Sub.nil)))
    · replace ho1556 := cond_f hb1575 ho1556
      refine run_exit ?_
      refine at_then_exit ?_
      refine at_then_exit ?_
      refine at_block_exit ?_
      exact at_mid (ρ' := [(0, .pointer (some ⟨b0, f0, none⟩)), (3, .string a1564)]) ⟨_, (Option.some.inj ho1556), rfl, HM⟩ (Sub.cons rfl (Sub.cons rfl Sub.nil))
  · rintro _ w1583 ⟨a1554, rfl, rfl, HM⟩
    refine run_seq ?_
    refine run_seq ?_
    refine run_region rfl ?_
    refine ox rfl rfl rfl rfl (ex_move rfl rfl) ?_
    refine ox rfl rfl rfl rfl (ex_nilCheck rfl rfl) ?_
    refine ox rfl rfl rfl rfl (ex_fieldAddr (off' := f0 + 2) rfl rfl Tryz.underlying42 rfl tsz2 rfl) ?_
    refine ox rfl rfl rfl rfl (ex_load1 rfl rfl Tryz.underlying2 rfl ((HM.at_ hc0) 2 _ rfl)) ?_
    refine ox rfl rfl rfl rfl (ex_neq rfl rfl rfl) ?_
    refine ops_nil (at_then ?_)
    refine run_cond (b := (x0.fAfter != 0)) rfl (fun hb1584 => ?_) (fun hb1584 => ?_)
    · replace H := cond_t hb1584 H
      obtain ⟨e1585, H⟩ := chk_some H
      obtain ⟨t1586, h1587, H⟩ := bind_some H
      obtain ⟨e1588, H⟩ := chk_some H
      refine run_region rfl ?_
      refine ox rfl rfl rfl rfl (ex_move rfl rfl) ?_
      refine ox rfl rfl rfl rfl (ex_sadd rfl rfl rfl (leB_le e1585)) ?_
      refine ox rfl rfl rfl rfl (ex_move rfl rfl) ?_
      refine ox rfl rfl rfl rfl (ex_nilCheck rfl rfl) ?_
      refine ox rfl rfl rfl rfl (ex_fieldAddr (off' := f0 + 2) rfl rfl Tryz.underlying42 rfl tsz2 rfl) ?_
      refine ox rfl rfl rfl rfl (ex_load1 rfl rfl Tryz.underlying2 rfl ((HM.at_ hc0) 2 _ rfl)) ?_
      refine od rfl rfl rfl rfl (does_callk rfl callok39 rfl (spec_l2Digits.calls (x0 := x0.fAfter) h1587)) ?_
      rintro _ w1589 ⟨rfl, hn⟩
      replace HM : Mem w [] w1589 [] := HM.call hn
      refine ox rfl rfl rfl rfl (ex_sadd rfl rfl rfl (leB_le e1588)) ?_
      refine ox rfl rfl rfl rfl (ex_assign rfl rfl) ?_
      refine ops_nil (at_then (run_seq ?_))
      refine run_region rfl ?_
      refine ox rfl rfl rfl rfl (ex_move rfl rfl) ?_
      refine ox rfl rfl rfl rfl (ex_assign rfl rfl) ?_
      refine ops_nil (at_then ?_)
      refine run_ret ?_
      have hR := Option.some.inj H
      subst hR
      exact at_ret1 rfl rfl ⟨_, rfl, rfl, HM⟩
    · replace H := cond_f hb1584 H
      refine run_skip ?_
      refine at_then ?_
      refine run_seq ?_
      refine run_region rfl ?_
      refine ox rfl rfl rfl rfl (ex_move rfl rfl) ?_
      refine ox rfl rfl rfl rfl (ex_assign rfl rfl) ?_
      refine ops_nil (at_then ?_)
      refine run_ret ?_
      have hR := Option.some.inj H
      subst hR
      exact at_ret1 rfl rfl ⟨_, rfl, rfl, HM⟩
end Go.Proofs.YtmaolhocmkkmjaaGreatDoor.Zk
