/- What functions of the program compute, each as a plain function, and that they do. Conditions: as each theorem states them. -/
import Derived.Test.YtigojhglkilodaaTakeCoinsZkF5
namespace Go.Proofs.Ytigojhglkilodaa.Zk
open Go Go.RowKit Go.IntWalk Go.Proofs
set_option linter.unusedVariables false
set_option linter.unusedSimpArgs false
set_option maxRecDepth 100000
set_option maxHeartbeats 4000000
def laws_markCoinS.l0  : Nat → (List Coin) → Int → Int → Option ((List Coin) × Int)
  | 0, _, _, _ => none
  | k + 1, a3946, a3948, a3949 => (bif (decide (a3949 < (a3946.length : Int))) then (chk (idxOk a3949 a3946.length) ((laws_markInt64S.f k ((gt a3946 a3949).fOut.fRule.fKeys) (wrap64 ((wrap64 ((wrap64 (a3948 + 1)) + 1)) + 1))).bind fun t3986 => (chk ((3 : Int) != 0) (laws_markCoinS.l0 k (a3946.set (a3949).toNat (⟨(⟨a3948, wrap64 (a3948 + 1)⟩ : Ref), (⟨wrap64 ((wrap64 (a3948 + 1)) + 1), (⟨t3986.2, t3986.1, wrap64 (t3986.1 + 1)⟩ : Rule)⟩ : Out), wrap64 ((wrap64 (t3986.1 + 1)) + 1), ((Int.tmod (wrap64 ((wrap64 ((wrap64 (t3986.1 + 1)) + 1)) + 1)) (3 : Int)) == 0)⟩ : Coin)) (wrap64 ((wrap64 ((wrap64 ((wrap64 (t3986.1 + 1)) + 1)) + 1)) + 1)) (wrap64 (a3949 + 1)))))) else some (a3946, a3948))
theorem laws_markCoinS.l0_z  (a3946 : List Coin) (a3948 : Int) (a3949 : Int) : laws_markCoinS.l0 0 a3946 a3948 a3949 = none := rfl
theorem laws_markCoinS.l0_s  (k : Nat) (a3946 : List Coin) (a3948 : Int) (a3949 : Int) : laws_markCoinS.l0 (k + 1) a3946 a3948 a3949 = (bif (decide (a3949 < (a3946.length : Int))) then (chk (idxOk a3949 a3946.length) ((laws_markInt64S.f k ((gt a3946 a3949).fOut.fRule.fKeys) (wrap64 ((wrap64 ((wrap64 (a3948 + 1)) + 1)) + 1))).bind fun t3986 => (chk ((3 : Int) != 0) (laws_markCoinS.l0 k (a3946.set (a3949).toNat (⟨(⟨a3948, wrap64 (a3948 + 1)⟩ : Ref), (⟨wrap64 ((wrap64 (a3948 + 1)) + 1), (⟨t3986.2, t3986.1, wrap64 (t3986.1 + 1)⟩ : Rule)⟩ : Out), wrap64 ((wrap64 (t3986.1 + 1)) + 1), ((Int.tmod (wrap64 ((wrap64 ((wrap64 (t3986.1 + 1)) + 1)) + 1)) (3 : Int)) == 0)⟩ : Coin)) (wrap64 ((wrap64 ((wrap64 ((wrap64 (t3986.1 + 1)) + 1)) + 1)) + 1)) (wrap64 (a3949 + 1)))))) else some (a3946, a3948)) := rfl
def laws_markCoinS.f (k : Nat) (x0 : List Coin) (x1 : Int) : Option (Int × (List Coin)) := ((laws_markCoinS.l0 k x0 x1 0).bind (cur2 (fun a3919 a3921 => some (a3921, a3919))))
theorem laws_markCoinS.calls {k : Nat} {x0 : List Coin} {x1 : Int} {p0 : Value} {w wo : World} {X : List Nat} (hwo : Olds wo w X) (hX : Hold w [own kCoin 123 p0 x0] X) (hXn : X.Nodup) (hXl : ∀ b ∈ X, b < w.heap.size)  {r : Int × (List Coin)} (H : laws_markCoinS.f k x0 x1 = some r) :
    Calls Try.prog 28 ([p0, .int .i64 x1] : List Value).toArray w (fun e w_ => ∃ v, e = .returned v ∧ v = (.int .i64 r.1) ∧ Mem w X w_ [own kCoin 123 p0 r.2]) := by
  have HM := Mem.startX hX hXn hXl
  refine calls_run (N := 80) Try.func28 rfl rfl rfl rfl ?_
  unfold laws_markCoinS.f at H
  refine run_seq ?_
  refine run_region rfl ?_
  refine ops_ex rfl (guard_none rfl) rfl rfl (ex_assign rfl rfl) ?_
  refine ops_nil ?_
  refine at_then ?_
  obtain ⟨o3922, ho3923, H⟩ := bind_some H
  refine run_mid (fun ρ_ w_ => ∃ a3919 : List Coin, ∃ a3921 : Int, (a3919, a3921) = o3922 ∧ ρ_ = [(1, .int .i64 a3921)] ∧ Mem w X w_ [own kCoin 123 p0 a3919]) ?_ ?_
  · clear H
    refine run_seq ?_
    refine run_region rfl ?_
    refine ops_ex rfl (guard_none rfl) rfl rfl (ex_assign rfl rfl) ?_
    refine ops_nil ?_
    refine at_then ?_
    refine run_block ?_
    refine run_loop (fun k_ ρ_ w_ => ∃ a3946 : List Coin, ∃ a3948 : Int, ∃ a3949 : Int, laws_markCoinS.l0 k_ a3946 a3948 a3949 = some o3922 ∧ ρ_ = [(0, p0), (1, .int .i64 a3948), (5, .int .i64 a3949)] ∧ Mem w X w_ [own kCoin 123 p0 a3946]) k (ρ1 := [(0, p0), (1, .int .i64 x1), (5, .int .i64 0)]) ⟨_, _, _, ho3923, rfl, HM⟩ (Sub.cons rfl (Sub.cons rfl (Sub.cons rfl Sub.nil))) ?_
    clear HM ho3923
    rintro k3972 _ w3973 ⟨a3946, a3948, a3949, ho3923, rfl, HM⟩
    obtain _ | k3972 := k3972
    · exact nomatch ((laws_markCoinS.l0_z a3946 a3948 a3949).symm.trans ho3923)
    replace ho3923 := (laws_markCoinS.l0_s k3972 a3946 a3948 a3949).symm.trans ho3923
    refine run_seq ?_
    refine run_seq ?_
    refine run_region rfl ?_
    refine ops_ex rfl (guard_none rfl) rfl rfl (ex_move rfl rfl) ?_
    refine ops_ex rfl (guard_none rfl) rfl rfl (ex_move rfl rfl) ?_
    refine ops_ex rfl (guard_none rfl) rfl rfl (ex_len (d := kCoin) (xs := a3946) rfl rfl Try.underlying44 (HM.own_rd 0 rfl)) ?_
    refine ops_ex rfl (guard_none rfl) rfl rfl (ex_lss rfl rfl rfl) ?_
    refine ops_nil ?_
    refine at_then ?_
    refine run_cond (b := (decide (a3949 < (a3946.length : Int)))) rfl (fun hb3974 => ?_) (fun hb3974 => ?_)
    · replace ho3923 := cond_t hb3974 ho3923
      refine run_skip ?_
      refine at_then ?_
      refine run_seq ?_
      refine run_block ?_
      refine run_seq ?_
      obtain ⟨e3975, ho3923⟩ := chk_some ho3923
      refine run_region rfl ?_
      refine ops_ex rfl (guard_none rfl) rfl rfl (ex_move rfl rfl) ?_
      refine ops_ex rfl (guard_none rfl) rfl rfl (ex_move rfl rfl) ?_
      refine ops_ex rfl (guard_none rfl) rfl rfl (ex_move rfl rfl) ?_
      refine ops_ex rfl (guard_none rfl) rfl rfl (ex_indexAddr (d := kCoin) rfl rfl rfl Try.underlying44 tsz123 (HM.own_rd 0 rfl) (idx_lo e3975) (idx_hi e3975)) ?_
      refine ops_ex rfl (guard_none rfl) rfl rfl (ex_fieldAddr (off' := so p0 + (a3949).toNat * 8) rfl rfl Try.underlying123 rfl tsz54 rfl) ?_
      refine ops_ex rfl (guard_none rfl) rfl rfl (ex_fieldAddr (off' := so p0 + (a3949).toNat * 8) rfl rfl Try.underlying54 rfl tsz2 rfl) ?_
      refine ops_doesS rfl (guard_none rfl) rfl (does_setField (fo := 0) (vs := [(.int .i64 a3948)]) (y := (⟨(⟨a3948, (gt a3946 a3949).fRef.fAt⟩ : Ref), (gt a3946 a3949).fOut, (gt a3946 a3949).fHeight, (gt a3946 a3949).fMined⟩ : Coin)) kCoin rfl rfl rfl rfl rfl tsz2 (Ones.int Ones.nil) rfl rfl (idx_nat e3975) (fun _ _ _ h => by rw [← gt_eq (idx_nat e3975)] at h; obtain ⟨_, rfl, h2⟩ := h; exact ⟨_, rfl, h2⟩) HM) ?_
      rintro w3976 HM
      refine ops_nil ?_
      refine at_then ?_
      refine run_seq ?_
      refine run_region rfl ?_
      refine ops_ex rfl (guard_none rfl) rfl rfl (ex_move rfl rfl) ?_
      refine ops_ex rfl (guard_none rfl) rfl rfl (ex_add rfl rfl rfl) ?_
      refine ops_ex rfl (guard_none rfl) rfl rfl (ex_assign rfl rfl) ?_
      refine ops_nil ?_
      refine at_then ?_
      refine run_seq ?_
      refine run_region rfl ?_
      refine ops_ex rfl (guard_none rfl) rfl rfl (ex_move rfl rfl) ?_
      refine ops_ex rfl (guard_none rfl) rfl rfl (ex_move rfl rfl) ?_
      refine ops_ex rfl (guard_none rfl) rfl rfl (ex_move rfl rfl) ?_
      have e3977 : idxOk a3949 (a3946.set (a3949).toNat (⟨(⟨a3948, (gt a3946 a3949).fRef.fAt⟩ : Ref), (gt a3946 a3949).fOut, (gt a3946 a3949).fHeight, (gt a3946 a3949).fMined⟩ : Coin)).length = true := len_set e3975
      refine ops_ex rfl (guard_none rfl) rfl rfl (ex_indexAddr (d := kCoin) rfl rfl rfl Try.underlying44 tsz123 (HM.own_rd 0 rfl) (idx_lo e3977) (idx_hi e3977)) ?_
      refine ops_ex rfl (guard_none rfl) rfl rfl (ex_fieldAddr (off' := so p0 + (a3949).toNat * 8) rfl rfl Try.underlying123 rfl tsz54 rfl) ?_
      refine ops_ex rfl (guard_none rfl) rfl rfl (ex_fieldAddr (off' := so p0 + (a3949).toNat * 8 + 1) rfl rfl Try.underlying54 rfl tsz2 rfl) ?_
      refine ops_doesS rfl (guard_none rfl) rfl (does_setField (fo := 1) (vs := [(.int .i64 (wrap64 (a3948 + 1)))]) (y := (⟨(⟨a3948, wrap64 (a3948 + 1)⟩ : Ref), (gt a3946 a3949).fOut, (gt a3946 a3949).fHeight, (gt a3946 a3949).fMined⟩ : Coin)) kCoin rfl rfl rfl rfl rfl tsz2 (Ones.int Ones.nil) rfl rfl (idx_nat e3977) (fun _ _ _ h => by rw [List.getElem_set_self] at h; obtain ⟨_, rfl, h2⟩ := h; exact ⟨_, rfl, h2⟩) HM) ?_
      rintro w3978 HM
      replace HM := HM.set2
      refine ops_nil ?_
      refine at_then ?_
      refine run_seq ?_
      refine run_region rfl ?_
      refine ops_ex rfl (guard_none rfl) rfl rfl (ex_move rfl rfl) ?_
      refine ops_ex rfl (guard_none rfl) rfl rfl (ex_add rfl rfl rfl) ?_
      refine ops_ex rfl (guard_none rfl) rfl rfl (ex_assign rfl rfl) ?_
      refine ops_nil ?_
      refine at_then ?_
      refine run_seq ?_
      refine run_region rfl ?_
      refine ops_ex rfl (guard_none rfl) rfl rfl (ex_move rfl rfl) ?_
      refine ops_ex rfl (guard_none rfl) rfl rfl (ex_move rfl rfl) ?_
      refine ops_ex rfl (guard_none rfl) rfl rfl (ex_move rfl rfl) ?_
      have e3979 : idxOk a3949 (a3946.set (a3949).toNat (⟨(⟨a3948, wrap64 (a3948 + 1)⟩ : Ref), (gt a3946 a3949).fOut, (gt a3946 a3949).fHeight, (gt a3946 a3949).fMined⟩ : Coin)).length = true := len_set e3975
      refine ops_ex rfl (guard_none rfl) rfl rfl (ex_indexAddr (d := kCoin) rfl rfl rfl Try.underlying44 tsz123 (HM.own_rd 0 rfl) (idx_lo e3979) (idx_hi e3979)) ?_
      refine ops_ex rfl (guard_none rfl) rfl rfl (ex_fieldAddr (off' := so p0 + (a3949).toNat * 8 + 2) rfl rfl Try.underlying123 rfl tsz121 rfl) ?_
      refine ops_ex rfl (guard_none rfl) rfl rfl (ex_fieldAddr (off' := so p0 + (a3949).toNat * 8 + 2) rfl rfl Try.underlying121 rfl tsz2 rfl) ?_
      refine ops_doesS rfl (guard_none rfl) rfl (does_setField (fo := 2) (vs := [(.int .i64 (wrap64 ((wrap64 (a3948 + 1)) + 1)))]) (y := (⟨(⟨a3948, wrap64 (a3948 + 1)⟩ : Ref), (⟨wrap64 ((wrap64 (a3948 + 1)) + 1), (gt a3946 a3949).fOut.fRule⟩ : Out), (gt a3946 a3949).fHeight, (gt a3946 a3949).fMined⟩ : Coin)) kCoin rfl rfl rfl rfl rfl tsz2 (Ones.int Ones.nil) rfl rfl (idx_nat e3979) (fun _ _ _ h => by rw [List.getElem_set_self] at h; obtain ⟨_, rfl, h2⟩ := h; exact ⟨_, rfl, h2⟩) HM) ?_
      rintro w3980 HM
      replace HM := HM.set2
      refine ops_nil ?_
      refine at_then ?_
      refine run_seq ?_
      refine run_region rfl ?_
      refine ops_ex rfl (guard_none rfl) rfl rfl (ex_move rfl rfl) ?_
      refine ops_ex rfl (guard_none rfl) rfl rfl (ex_add rfl rfl rfl) ?_
      refine ops_ex rfl (guard_none rfl) rfl rfl (ex_assign rfl rfl) ?_
      refine ops_nil ?_
      refine at_then ?_
      refine run_seq ?_
      obtain ⟨t3986, h3987, ho3923⟩ := bind_some ho3923
      refine run_region rfl ?_
      refine ops_ex rfl (guard_none rfl) rfl rfl (ex_move rfl rfl) ?_
      refine ops_ex rfl (guard_none rfl) rfl rfl (ex_move rfl rfl) ?_
      have e3981 : idxOk a3949 (a3946.set (a3949).toNat (⟨(⟨a3948, wrap64 (a3948 + 1)⟩ : Ref), (⟨wrap64 ((wrap64 (a3948 + 1)) + 1), (gt a3946 a3949).fOut.fRule⟩ : Out), (gt a3946 a3949).fHeight, (gt a3946 a3949).fMined⟩ : Coin)).length = true := len_set e3975
      refine ops_ex rfl (guard_none rfl) rfl rfl (ex_indexAddr (d := kCoin) rfl rfl rfl Try.underlying44 tsz123 (HM.own_rd 0 rfl) (idx_lo e3981) (idx_hi e3981)) ?_
      refine ops_ex rfl (guard_none rfl) rfl rfl (ex_fieldAddr (off' := so p0 + (a3949).toNat * 8 + 2) rfl rfl Try.underlying123 rfl tsz121 rfl) ?_
      refine ops_ex rfl (guard_none rfl) rfl rfl (ex_fieldAddr (off' := so p0 + (a3949).toNat * 8 + 3) rfl rfl Try.underlying121 rfl tsz119 rfl) ?_
      refine ops_ex rfl (guard_none rfl) rfl rfl (ex_fieldAddr (off' := so p0 + (a3949).toNat * 8 + 3) rfl rfl Try.underlying119 rfl tsz111 rfl) ?_
      obtain ⟨u3982, hc3983, HM⟩ := HM.open1 e3981 (gt_set2 e3975)
      refine ops_ex rfl (guard_none rfl) rfl rfl (ex_load1 rfl rfl Try.underlying111 rfl (hc3983 3 _ rfl)) ?_
      refine ops_ex rfl (guard_none rfl) rfl rfl (ex_move rfl rfl) ?_
      obtain ⟨F3988, hF3989, hFn3990, hFl3991, HMh3992, hcl3993⟩ := HM.hide (Ms := [own kInt 2 u3982 ((gt a3946 a3949).fOut.fRule.fKeys)])
      refine ops_does rfl (guard_none rfl) rfl rfl (does_callk rfl callok84 rfl (laws_markInt64S.calls (x0 := (gt a3946 a3949).fOut.fRule.fKeys) (x1 := wrap64 ((wrap64 ((wrap64 (a3948 + 1)) + 1)) + 1)) (hide_olds _ _) hF3989 hFn3990 hFl3991 h3987)) ?_
      rintro _ w3994 ⟨rfl, hn⟩
      replace HM : Mem w X w3994 [own kInt 2 u3982 t3986.2, hole kCoin (fun u_ => [(.int .i64 a3948), (.int .i64 (wrap64 (a3948 + 1))), (.int .i64 (wrap64 ((wrap64 (a3948 + 1)) + 1))), u_, (.int .i64 ((gt a3946 a3949).fOut.fRule.fNeed)), (.int .i64 ((gt a3946 a3949).fOut.fRule.fAfter)), (.int .i64 ((gt a3946 a3949).fHeight)), (.bool ((gt a3946 a3949).fMined))]) 123 p0 (a3946.set (a3949).toNat (⟨(⟨a3948, wrap64 (a3948 + 1)⟩ : Ref), (⟨wrap64 ((wrap64 (a3948 + 1)) + 1), (gt a3946 a3949).fOut.fRule⟩ : Out), (gt a3946 a3949).fHeight, (gt a3946 a3949).fMined⟩ : Coin)) (a3949).toNat u3982] := hcl3993 _ _ hn
      replace HM := HM.front 1 rfl rfl
      replace HM := HM.front 1 rfl rfl
      replace HM := Mem.close1 (⟨(⟨a3948, wrap64 (a3948 + 1)⟩ : Ref), (⟨wrap64 ((wrap64 (a3948 + 1)) + 1), (⟨t3986.2, (gt a3946 a3949).fOut.fRule.fNeed, (gt a3946 a3949).fOut.fRule.fAfter⟩ : Rule)⟩ : Out), (gt a3946 a3949).fHeight, (gt a3946 a3949).fMined⟩ : Coin) HM rfl rfl
      replace HM := HM.set2
      refine ops_ex rfl (guard_none rfl) rfl rfl (ex_assign rfl rfl) ?_
      refine ops_nil ?_
      refine at_then ?_
      refine run_seq ?_
      refine run_region rfl ?_
      refine ops_ex rfl (guard_none rfl) rfl rfl (ex_move rfl rfl) ?_
      refine ops_ex rfl (guard_none rfl) rfl rfl (ex_move rfl rfl) ?_
      refine ops_ex rfl (guard_none rfl) rfl rfl (ex_move rfl rfl) ?_
      have e3995 : idxOk a3949 (a3946.set (a3949).toNat (⟨(⟨a3948, wrap64 (a3948 + 1)⟩ : Ref), (⟨wrap64 ((wrap64 (a3948 + 1)) + 1), (⟨t3986.2, (gt a3946 a3949).fOut.fRule.fNeed, (gt a3946 a3949).fOut.fRule.fAfter⟩ : Rule)⟩ : Out), (gt a3946 a3949).fHeight, (gt a3946 a3949).fMined⟩ : Coin)).length = true := len_set e3975
      refine ops_ex rfl (guard_none rfl) rfl rfl (ex_indexAddr (d := kCoin) rfl rfl rfl Try.underlying44 tsz123 (HM.own_rd 0 rfl) (idx_lo e3995) (idx_hi e3995)) ?_
      refine ops_ex rfl (guard_none rfl) rfl rfl (ex_fieldAddr (off' := so p0 + (a3949).toNat * 8 + 2) rfl rfl Try.underlying123 rfl tsz121 rfl) ?_
      refine ops_ex rfl (guard_none rfl) rfl rfl (ex_fieldAddr (off' := so p0 + (a3949).toNat * 8 + 3) rfl rfl Try.underlying121 rfl tsz119 rfl) ?_
      refine ops_ex rfl (guard_none rfl) rfl rfl (ex_fieldAddr (off' := so p0 + (a3949).toNat * 8 + 4) rfl rfl Try.underlying119 rfl tsz2 rfl) ?_
      refine ops_doesS rfl (guard_none rfl) rfl (does_setField (fo := 4) (vs := [(.int .i64 t3986.1)]) (y := (⟨(⟨a3948, wrap64 (a3948 + 1)⟩ : Ref), (⟨wrap64 ((wrap64 (a3948 + 1)) + 1), (⟨t3986.2, t3986.1, (gt a3946 a3949).fOut.fRule.fAfter⟩ : Rule)⟩ : Out), (gt a3946 a3949).fHeight, (gt a3946 a3949).fMined⟩ : Coin)) kCoin rfl rfl rfl rfl rfl tsz2 (Ones.int Ones.nil) rfl rfl (idx_nat e3995) (fun _ _ _ h => by rw [List.getElem_set_self] at h; obtain ⟨_, rfl, h2⟩ := h; exact ⟨_, rfl, h2⟩) HM) ?_
      rintro w3996 HM
      replace HM := HM.set2
      refine ops_nil ?_
      refine at_then ?_
      refine run_seq ?_
      refine run_region rfl ?_
      refine ops_ex rfl (guard_none rfl) rfl rfl (ex_move rfl rfl) ?_
      refine ops_ex rfl (guard_none rfl) rfl rfl (ex_add rfl rfl rfl) ?_
      refine ops_ex rfl (guard_none rfl) rfl rfl (ex_assign rfl rfl) ?_
      refine ops_nil ?_
      refine at_then ?_
      refine run_seq ?_
      refine run_region rfl ?_
      refine ops_ex rfl (guard_none rfl) rfl rfl (ex_move rfl rfl) ?_
      refine ops_ex rfl (guard_none rfl) rfl rfl (ex_move rfl rfl) ?_
      refine ops_ex rfl (guard_none rfl) rfl rfl (ex_move rfl rfl) ?_
      have e3997 : idxOk a3949 (a3946.set (a3949).toNat (⟨(⟨a3948, wrap64 (a3948 + 1)⟩ : Ref), (⟨wrap64 ((wrap64 (a3948 + 1)) + 1), (⟨t3986.2, t3986.1, (gt a3946 a3949).fOut.fRule.fAfter⟩ : Rule)⟩ : Out), (gt a3946 a3949).fHeight, (gt a3946 a3949).fMined⟩ : Coin)).length = true := len_set e3975
      refine ops_ex rfl (guard_none rfl) rfl rfl (ex_indexAddr (d := kCoin) rfl rfl rfl Try.underlying44 tsz123 (HM.own_rd 0 rfl) (idx_lo e3997) (idx_hi e3997)) ?_
      refine ops_ex rfl (guard_none rfl) rfl rfl (ex_fieldAddr (off' := so p0 + (a3949).toNat * 8 + 2) rfl rfl Try.underlying123 rfl tsz121 rfl) ?_
      refine ops_ex rfl (guard_none rfl) rfl rfl (ex_fieldAddr (off' := so p0 + (a3949).toNat * 8 + 3) rfl rfl Try.underlying121 rfl tsz119 rfl) ?_
      refine ops_ex rfl (guard_none rfl) rfl rfl (ex_fieldAddr (off' := so p0 + (a3949).toNat * 8 + 5) rfl rfl Try.underlying119 rfl tsz2 rfl) ?_
      refine ops_doesS rfl (guard_none rfl) rfl (does_setField (fo := 5) (vs := [(.int .i64 (wrap64 (t3986.1 + 1)))]) (y := (⟨(⟨a3948, wrap64 (a3948 + 1)⟩ : Ref), (⟨wrap64 ((wrap64 (a3948 + 1)) + 1), (⟨t3986.2, t3986.1, wrap64 (t3986.1 + 1)⟩ : Rule)⟩ : Out), (gt a3946 a3949).fHeight, (gt a3946 a3949).fMined⟩ : Coin)) kCoin rfl rfl rfl rfl rfl tsz2 (Ones.int Ones.nil) rfl rfl (idx_nat e3997) (fun _ _ _ h => by rw [List.getElem_set_self] at h; obtain ⟨_, rfl, h2⟩ := h; exact ⟨_, rfl, h2⟩) HM) ?_
      rintro w3998 HM
      replace HM := HM.set2
      refine ops_nil ?_
      refine at_then ?_
      refine run_seq ?_
      refine run_region rfl ?_
      refine ops_ex rfl (guard_none rfl) rfl rfl (ex_move rfl rfl) ?_
      refine ops_ex rfl (guard_none rfl) rfl rfl (ex_add rfl rfl rfl) ?_
      refine ops_ex rfl (guard_none rfl) rfl rfl (ex_assign rfl rfl) ?_
      refine ops_nil ?_
      refine at_then ?_
      refine run_seq ?_
      refine run_region rfl ?_
      refine ops_ex rfl (guard_none rfl) rfl rfl (ex_move rfl rfl) ?_
      refine ops_ex rfl (guard_none rfl) rfl rfl (ex_move rfl rfl) ?_
      refine ops_ex rfl (guard_none rfl) rfl rfl (ex_move rfl rfl) ?_
      have e3999 : idxOk a3949 (a3946.set (a3949).toNat (⟨(⟨a3948, wrap64 (a3948 + 1)⟩ : Ref), (⟨wrap64 ((wrap64 (a3948 + 1)) + 1), (⟨t3986.2, t3986.1, wrap64 (t3986.1 + 1)⟩ : Rule)⟩ : Out), (gt a3946 a3949).fHeight, (gt a3946 a3949).fMined⟩ : Coin)).length = true := len_set e3975
      refine ops_ex rfl (guard_none rfl) rfl rfl (ex_indexAddr (d := kCoin) rfl rfl rfl Try.underlying44 tsz123 (HM.own_rd 0 rfl) (idx_lo e3999) (idx_hi e3999)) ?_
      refine ops_ex rfl (guard_none rfl) rfl rfl (ex_fieldAddr (off' := so p0 + (a3949).toNat * 8 + 6) rfl rfl Try.underlying123 rfl tsz2 rfl) ?_
      refine ops_doesS rfl (guard_none rfl) rfl (does_setField (fo := 6) (vs := [(.int .i64 (wrap64 ((wrap64 (t3986.1 + 1)) + 1)))]) (y := (⟨(⟨a3948, wrap64 (a3948 + 1)⟩ : Ref), (⟨wrap64 ((wrap64 (a3948 + 1)) + 1), (⟨t3986.2, t3986.1, wrap64 (t3986.1 + 1)⟩ : Rule)⟩ : Out), wrap64 ((wrap64 (t3986.1 + 1)) + 1), (gt a3946 a3949).fMined⟩ : Coin)) kCoin rfl rfl rfl rfl rfl tsz2 (Ones.int Ones.nil) rfl rfl (idx_nat e3999) (fun _ _ _ h => by rw [List.getElem_set_self] at h; obtain ⟨_, rfl, h2⟩ := h; exact ⟨_, rfl, h2⟩) HM) ?_
      rintro w4000 HM
      replace HM := HM.set2
      refine ops_nil ?_
      refine at_then ?_
      refine run_seq ?_
      refine run_region rfl ?_
      refine ops_ex rfl (guard_none rfl) rfl rfl (ex_move rfl rfl) ?_
      refine ops_ex rfl (guard_none rfl) rfl rfl (ex_add rfl rfl rfl) ?_
      refine ops_ex rfl (guard_none rfl) rfl rfl (ex_assign rfl rfl) ?_
      refine ops_nil ?_
      refine at_then ?_
      refine run_seq ?_
      obtain ⟨e4001, ho3923⟩ := chk_some ho3923
      refine run_region rfl ?_
      refine ops_ex rfl (guard_none rfl) rfl rfl (ex_move rfl rfl) ?_
      refine ops_ex rfl (guard_none rfl) rfl rfl (ex_move rfl rfl) ?_
      refine ops_ex rfl (guard_none rfl) rfl rfl (ex_move rfl rfl) ?_
      refine ops_ex rfl (guard_none rfl) rfl rfl (ex_remk rfl rfl rfl e4001) ?_
      refine ops_ex rfl (guard_none rfl) rfl rfl (ex_eql rfl rfl rfl) ?_
      have e4002 : idxOk a3949 (a3946.set (a3949).toNat (⟨(⟨a3948, wrap64 (a3948 + 1)⟩ : Ref), (⟨wrap64 ((wrap64 (a3948 + 1)) + 1), (⟨t3986.2, t3986.1, wrap64 (t3986.1 + 1)⟩ : Rule)⟩ : Out), wrap64 ((wrap64 (t3986.1 + 1)) + 1), (gt a3946 a3949).fMined⟩ : Coin)).length = true := len_set e3975
      refine ops_ex rfl (guard_none rfl) rfl rfl (ex_indexAddr (d := kCoin) rfl rfl rfl Try.underlying44 tsz123 (HM.own_rd 0 rfl) (idx_lo e4002) (idx_hi e4002)) ?_
      refine ops_ex rfl (guard_none rfl) rfl rfl (ex_fieldAddr (off' := so p0 + (a3949).toNat * 8 + 7) rfl rfl Try.underlying123 rfl tsz4 rfl) ?_
      refine ops_doesS rfl (guard_none rfl) rfl (does_setField (fo := 7) (vs := [(.bool ((Int.tmod (wrap64 ((wrap64 ((wrap64 (t3986.1 + 1)) + 1)) + 1)) (3 : Int)) == 0))]) (y := (⟨(⟨a3948, wrap64 (a3948 + 1)⟩ : Ref), (⟨wrap64 ((wrap64 (a3948 + 1)) + 1), (⟨t3986.2, t3986.1, wrap64 (t3986.1 + 1)⟩ : Rule)⟩ : Out), wrap64 ((wrap64 (t3986.1 + 1)) + 1), ((Int.tmod (wrap64 ((wrap64 ((wrap64 (t3986.1 + 1)) + 1)) + 1)) (3 : Int)) == 0)⟩ : Coin)) kCoin rfl rfl rfl rfl rfl tsz4 (Ones.bool Ones.nil) rfl rfl (idx_nat e4002) (fun _ _ _ h => by rw [List.getElem_set_self] at h; obtain ⟨_, rfl, h2⟩ := h; exact ⟨_, rfl, h2⟩) HM) ?_
      rintro w4003 HM
      replace HM := HM.set2
      refine ops_nil ?_
      refine at_then ?_
      refine run_region rfl ?_
      refine ops_ex rfl (guard_none rfl) rfl rfl (ex_move rfl rfl) ?_
      refine ops_ex rfl (guard_none rfl) rfl rfl (ex_add rfl rfl rfl) ?_
      refine ops_ex rfl (guard_none rfl) rfl rfl (ex_assign rfl rfl) ?_
      refine ops_nil ?_
      refine at_block ?_
      refine at_then ?_
      refine run_region rfl ?_
      refine ops_ex rfl (guard_none rfl) rfl rfl (ex_move rfl rfl) ?_
      refine ops_ex rfl (guard_none rfl) rfl rfl (ex_add rfl rfl rfl) ?_
      refine ops_ex rfl (guard_none rfl) rfl rfl (ex_assign rfl rfl) ?_
      refine ops_nil ?_
      exact at_again k3972 (ρ1 := [(0, p0), (1, .int .i64 (wrap64 ((wrap64 ((wrap64 ((wrap64 (t3986.1 + 1)) + 1)) + 1)) + 1))), (5, .int .i64 (wrap64 (a3949 + 1)))]) (Nat.lt_succ_self _) ⟨_, _, _, ho3923, rfl, HM⟩ (Sub.cons rfl (Sub.cons rfl (Sub.cons rfl Sub.nil)))
    · replace ho3923 := cond_f hb3974 ho3923
      refine run_exit ?_
      refine at_then_exit ?_
      refine at_then_exit ?_
      refine at_block_exit ?_
      exact at_mid (ρ' := [(1, .int .i64 a3948)]) ⟨_, _, (Option.some.inj ho3923), rfl, HM⟩ (Sub.cons rfl Sub.nil)
  · rintro _ w4004 ⟨a3919, a3921, rfl, rfl, HM⟩
    replace H := cur2_mk H
    refine run_seq ?_
    refine run_region rfl ?_
    refine ops_ex rfl (guard_none rfl) rfl rfl (ex_move rfl rfl) ?_
    refine ops_ex rfl (guard_none rfl) rfl rfl (ex_assign rfl rfl) ?_
    refine ops_nil ?_
    refine at_then ?_
    refine run_ret ?_
    have hR := Option.some.inj H
    subst hR
    exact at_ret1 rfl rfl ⟨_, rfl, rfl, HM⟩

def laws_markRefS.l0  : Nat → (List Ref) → Int → Int → Option ((List Ref) × Int)
  | 0, _, _, _ => none
  | k + 1, a4056, a4058, a4059 => (bif (decide (a4059 < (a4056.length : Int))) then (chk (idxOk a4059 a4056.length) (laws_markRefS.l0 k (a4056.set (a4059).toNat (⟨a4058, wrap64 (a4058 + 1)⟩ : Ref)) (wrap64 ((wrap64 (a4058 + 1)) + 1)) (wrap64 (a4059 + 1)))) else some (a4056, a4058))
theorem laws_markRefS.l0_z  (a4056 : List Ref) (a4058 : Int) (a4059 : Int) : laws_markRefS.l0 0 a4056 a4058 a4059 = none := rfl
theorem laws_markRefS.l0_s  (k : Nat) (a4056 : List Ref) (a4058 : Int) (a4059 : Int) : laws_markRefS.l0 (k + 1) a4056 a4058 a4059 = (bif (decide (a4059 < (a4056.length : Int))) then (chk (idxOk a4059 a4056.length) (laws_markRefS.l0 k (a4056.set (a4059).toNat (⟨a4058, wrap64 (a4058 + 1)⟩ : Ref)) (wrap64 ((wrap64 (a4058 + 1)) + 1)) (wrap64 (a4059 + 1)))) else some (a4056, a4058)) := rfl
def laws_markRefS.f (k : Nat) (x0 : List Ref) (x1 : Int) : Option (Int × (List Ref)) := ((laws_markRefS.l0 k x0 x1 0).bind (cur2 (fun a4048 a4050 => some (a4050, a4048))))
theorem laws_markRefS.calls {k : Nat} {x0 : List Ref} {x1 : Int} {p0 : Value} {w wo : World} {X : List Nat} (hwo : Olds wo w X) (hX : Hold w [own kRef 54 p0 x0] X) (hXn : X.Nodup) (hXl : ∀ b ∈ X, b < w.heap.size)  {r : Int × (List Ref)} (H : laws_markRefS.f k x0 x1 = some r) :
    Calls Try.prog 49 ([p0, .int .i64 x1] : List Value).toArray w (fun e w_ => ∃ v, e = .returned v ∧ v = (.int .i64 r.1) ∧ Mem w X w_ [own kRef 54 p0 r.2]) := by
  have HM := Mem.startX hX hXn hXl
  refine calls_run (N := 27) Try.func49 rfl rfl rfl rfl ?_
  unfold laws_markRefS.f at H
  refine run_seq ?_
  refine run_region rfl ?_
  refine ops_ex rfl (guard_none rfl) rfl rfl (ex_assign rfl rfl) ?_
  refine ops_nil ?_
  refine at_then ?_
  obtain ⟨o4051, ho4052, H⟩ := bind_some H
  refine run_mid (fun ρ_ w_ => ∃ a4048 : List Ref, ∃ a4050 : Int, (a4048, a4050) = o4051 ∧ ρ_ = [(1, .int .i64 a4050)] ∧ Mem w X w_ [own kRef 54 p0 a4048]) ?_ ?_
  · clear H
    refine run_seq ?_
    refine run_region rfl ?_
    refine ops_ex rfl (guard_none rfl) rfl rfl (ex_assign rfl rfl) ?_
    refine ops_nil ?_
    refine at_then ?_
    refine run_block ?_
    refine run_loop (fun k_ ρ_ w_ => ∃ a4056 : List Ref, ∃ a4058 : Int, ∃ a4059 : Int, laws_markRefS.l0 k_ a4056 a4058 a4059 = some o4051 ∧ ρ_ = [(0, p0), (1, .int .i64 a4058), (5, .int .i64 a4059)] ∧ Mem w X w_ [own kRef 54 p0 a4056]) k (ρ1 := [(0, p0), (1, .int .i64 x1), (5, .int .i64 0)]) ⟨_, _, _, ho4052, rfl, HM⟩ (Sub.cons rfl (Sub.cons rfl (Sub.cons rfl Sub.nil))) ?_
    clear HM ho4052
    rintro k4063 _ w4064 ⟨a4056, a4058, a4059, ho4052, rfl, HM⟩
    obtain _ | k4063 := k4063
    · exact nomatch ((laws_markRefS.l0_z a4056 a4058 a4059).symm.trans ho4052)
    replace ho4052 := (laws_markRefS.l0_s k4063 a4056 a4058 a4059).symm.trans ho4052
    refine run_seq ?_
    refine run_seq ?_
    refine run_region rfl ?_
    refine ops_ex rfl (guard_none rfl) rfl rfl (ex_move rfl rfl) ?_
    refine ops_ex rfl (guard_none rfl) rfl rfl (ex_move rfl rfl) ?_
    refine ops_ex rfl (guard_none rfl) rfl rfl (ex_len (d := kRef) (xs := a4056) rfl rfl Try.underlying72 (HM.own_rd 0 rfl)) ?_
    refine ops_ex rfl (guard_none rfl) rfl rfl (ex_lss rfl rfl rfl) ?_
    refine ops_nil ?_
    refine at_then ?_
    refine run_cond (b := (decide (a4059 < (a4056.length : Int)))) rfl (fun hb4065 => ?_) (fun hb4065 => ?_)
    · replace ho4052 := cond_t hb4065 ho4052
      refine run_skip ?_
      refine at_then ?_
      refine run_seq ?_
      refine run_block ?_
      refine run_seq ?_
      obtain ⟨e4066, ho4052⟩ := chk_some ho4052
      refine run_region rfl ?_
      refine ops_ex rfl (guard_none rfl) rfl rfl (ex_move rfl rfl) ?_
      refine ops_ex rfl (guard_none rfl) rfl rfl (ex_move rfl rfl) ?_
      refine ops_ex rfl (guard_none rfl) rfl rfl (ex_move rfl rfl) ?_
      refine ops_ex rfl (guard_none rfl) rfl rfl (ex_indexAddr (d := kRef) rfl rfl rfl Try.underlying72 tsz54 (HM.own_rd 0 rfl) (idx_lo e4066) (idx_hi e4066)) ?_
      refine ops_ex rfl (guard_none rfl) rfl rfl (ex_fieldAddr (off' := so p0 + (a4059).toNat * 2) rfl rfl Try.underlying54 rfl tsz2 rfl) ?_
      refine ops_doesS rfl (guard_none rfl) rfl (does_setField (fo := 0) (vs := [(.int .i64 a4058)]) (y := (⟨a4058, (gt a4056 a4059).fAt⟩ : Ref)) kRef rfl rfl rfl rfl rfl tsz2 (Ones.int Ones.nil) rfl rfl (idx_nat e4066) (fun _ _ _ h => by rw [← gt_eq (idx_nat e4066)] at h; obtain ⟨rfl, h2⟩ := h; exact ⟨rfl, h2⟩) HM) ?_
      rintro w4067 HM
      refine ops_nil ?_
      refine at_then ?_
      refine run_seq ?_
      refine run_region rfl ?_
      refine ops_ex rfl (guard_none rfl) rfl rfl (ex_move rfl rfl) ?_
      refine ops_ex rfl (guard_none rfl) rfl rfl (ex_add rfl rfl rfl) ?_
      refine ops_ex rfl (guard_none rfl) rfl rfl (ex_assign rfl rfl) ?_
      refine ops_nil ?_
      refine at_then ?_
      refine run_seq ?_
      refine run_region rfl ?_
      refine ops_ex rfl (guard_none rfl) rfl rfl (ex_move rfl rfl) ?_
      refine ops_ex rfl (guard_none rfl) rfl rfl (ex_move rfl rfl) ?_
      refine ops_ex rfl (guard_none rfl) rfl rfl (ex_move rfl rfl) ?_
      have e4068 : idxOk a4059 (a4056.set (a4059).toNat (⟨a4058, (gt a4056 a4059).fAt⟩ : Ref)).length = true := len_set e4066
      refine ops_ex rfl (guard_none rfl) rfl rfl (ex_indexAddr (d := kRef) rfl rfl rfl Try.underlying72 tsz54 (HM.own_rd 0 rfl) (idx_lo e4068) (idx_hi e4068)) ?_
      refine ops_ex rfl (guard_none rfl) rfl rfl (ex_fieldAddr (off' := so p0 + (a4059).toNat * 2 + 1) rfl rfl Try.underlying54 rfl tsz2 rfl) ?_
      refine ops_doesS rfl (guard_none rfl) rfl (does_setField (fo := 1) (vs := [(.int .i64 (wrap64 (a4058 + 1)))]) (y := (⟨a4058, wrap64 (a4058 + 1)⟩ : Ref)) kRef rfl rfl rfl rfl rfl tsz2 (Ones.int Ones.nil) rfl rfl (idx_nat e4068) (fun _ _ _ h => by rw [List.getElem_set_self] at h; obtain ⟨rfl, h2⟩ := h; exact ⟨rfl, h2⟩) HM) ?_
      rintro w4069 HM
      replace HM := HM.set2
      refine ops_nil ?_
      refine at_then ?_
      refine run_region rfl ?_
      refine ops_ex rfl (guard_none rfl) rfl rfl (ex_move rfl rfl) ?_
      refine ops_ex rfl (guard_none rfl) rfl rfl (ex_add rfl rfl rfl) ?_
      refine ops_ex rfl (guard_none rfl) rfl rfl (ex_assign rfl rfl) ?_
      refine ops_nil ?_
      refine at_block ?_
      refine at_then ?_
      refine run_region rfl ?_
      refine ops_ex rfl (guard_none rfl) rfl rfl (ex_move rfl rfl) ?_
      refine ops_ex rfl (guard_none rfl) rfl rfl (ex_add rfl rfl rfl) ?_
      refine ops_ex rfl (guard_none rfl) rfl rfl (ex_assign rfl rfl) ?_
      refine ops_nil ?_
      exact at_again k4063 (ρ1 := [(0, p0), (1, .int .i64 (wrap64 ((wrap64 (a4058 + 1)) + 1))), (5, .int .i64 (wrap64 (a4059 + 1)))]) (Nat.lt_succ_self _) ⟨_, _, _, ho4052, rfl, HM⟩ (Sub.cons rfl (Sub.cons rfl (Sub.cons rfl Sub.nil)))
    · replace ho4052 := cond_f hb4065 ho4052
      refine run_exit ?_
      refine at_then_exit ?_
      refine at_then_exit ?_
      refine at_block_exit ?_
      exact at_mid (ρ' := [(1, .int .i64 a4058)]) ⟨_, _, (Option.some.inj ho4052), rfl, HM⟩ (Sub.cons rfl Sub.nil)
  · rintro _ w4070 ⟨a4048, a4050, rfl, rfl, HM⟩
    replace H := cur2_mk H
    refine run_seq ?_
    refine run_region rfl ?_
    refine ops_ex rfl (guard_none rfl) rfl rfl (ex_move rfl rfl) ?_
    refine ops_ex rfl (guard_none rfl) rfl rfl (ex_assign rfl rfl) ?_
    refine ops_nil ?_
    refine at_then ?_
    refine run_ret ?_
    have hR := Option.some.inj H
    subst hR
    exact at_ret1 rfl rfl ⟨_, rfl, rfl, HM⟩

def laws_markCoinsResult.f (k : Nat) (x0 : CoinsResult) (x1 : Int) : Option (Int × (List Coin)) := ((laws_markCoinS.f k x0.fCoins x1).bind fun t4106 => some (t4106.1, t4106.2))
theorem laws_markCoinsResult.calls {k : Nat} {x0 : CoinsResult} {x1 : Int} {p0_0 : Value} {w wo : World} {X : List Nat} (hwo : Olds wo w X) (hX : Hold w [own kCoin 123 p0_0 x0.fCoins] X) (hXn : X.Nodup) (hXl : ∀ b ∈ X, b < w.heap.size)  {r : Int × (List Coin)} (H : laws_markCoinsResult.f k x0 x1 = some r) :
    Calls Try.prog 29 ([.agg #[(.int .i64 x0.fCode), p0_0], .int .i64 x1] : List Value).toArray w (fun e w_ => ∃ v, e = .returned v ∧ v = (.int .i64 r.1) ∧ Mem w X w_ [own kCoin 123 p0_0 r.2]) := by
  have HM := Mem.startX hX hXn hXl
  refine calls_run (N := 10) Try.func29 rfl rfl rfl rfl ?_
  unfold laws_markCoinsResult.f at H
  refine run_seq ?_
  refine run_region rfl ?_
  refine ops_does rfl (guard_none rfl) rfl rfl (does_box (cs := [.int .i64 x0.fCode, p0_0]) rfl rfl rfl HM) ?_
  rintro _ w4105 ⟨b4102, rfl, HM⟩
  refine ops_ex rfl (guard_none rfl) rfl rfl (ex_assign rfl rfl) ?_
  refine ops_nil ?_
  refine at_then ?_
  refine run_seq ?_
  obtain ⟨t4106, h4107, H⟩ := bind_some H
  refine run_region rfl ?_
  refine ops_ex rfl (guard_none rfl) rfl rfl (ex_fieldAddr (off' := 1) rfl rfl Try.underlying52 rfl tsz44 rfl) ?_
  refine ops_ex rfl (guard_none rfl) rfl rfl (ex_load1 rfl rfl Try.underlying44 rfl ((HM.box_at 0 rfl) 1 _ rfl)) ?_
  refine ops_ex rfl (guard_none rfl) rfl rfl (ex_move rfl rfl) ?_
  replace HM := HM.front 1 rfl rfl
  obtain ⟨F4108, hF4109, hFn4110, hFl4111, HMh4112, hcl4113⟩ := HM.hide (Ms := [own kCoin 123 p0_0 x0.fCoins])
  refine ops_does rfl (guard_none rfl) rfl rfl (does_callk rfl callok28 rfl (laws_markCoinS.calls (x0 := x0.fCoins) (x1 := x1) (hide_olds _ _) hF4109 hFn4110 hFl4111 h4107)) ?_
  rintro _ w4114 ⟨rfl, hn⟩
  replace HM : Mem w X w4114 [own kCoin 123 p0_0 t4106.2, box b4102 52 [.int .i64 x0.fCode, p0_0]] := hcl4113 _ _ hn
  refine ops_ex rfl (guard_none rfl) rfl rfl (ex_assign rfl rfl) ?_
  refine ops_nil ?_
  refine at_then ?_
  refine run_seq ?_
  refine run_region rfl ?_
  refine ops_ex rfl (guard_none rfl) rfl rfl (ex_move rfl rfl) ?_
  refine ops_ex rfl (guard_none rfl) rfl rfl (ex_assign rfl rfl) ?_
  refine ops_nil ?_
  refine at_then ?_
  refine run_ret ?_
  replace HM := (HM.front 1 rfl rfl).drop
  have hR := Option.some.inj H
  subst hR
  exact at_ret1 rfl rfl ⟨_, rfl, rfl, HM⟩

def laws_heldInt64S.l0 (x0 : List Int) : Nat → Int → Int → Option (Int ⊕ Int)
  | 0, _, _ => none
  | k + 1, a4199, a4200 => (bif (decide (a4200 < (x0.length : Int))) then (chk (idxOk a4200 x0.length) (bif ((gt x0 a4200) != a4199) then some (.inl (-1)) else laws_heldInt64S.l0 x0 k (wrap64 (a4199 + 1)) (wrap64 (a4200 + 1)))) else some (.inr a4199))
theorem laws_heldInt64S.l0_z (x0 : List Int) (a4199 : Int) (a4200 : Int) : laws_heldInt64S.l0 x0 0 a4199 a4200 = none := rfl
theorem laws_heldInt64S.l0_s (x0 : List Int) (k : Nat) (a4199 : Int) (a4200 : Int) : laws_heldInt64S.l0 x0 (k + 1) a4199 a4200 = (bif (decide (a4200 < (x0.length : Int))) then (chk (idxOk a4200 x0.length) (bif ((gt x0 a4200) != a4199) then some (.inl (-1)) else laws_heldInt64S.l0 x0 k (wrap64 (a4199 + 1)) (wrap64 (a4200 + 1)))) else some (.inr a4199)) := rfl
def laws_heldInt64S.f (k : Nat) (x0 : List Int) (x1 : Int) : Option Int := ((laws_heldInt64S.l0 x0 k x1 0).bind fun o4193 => thn o4193 (fun r => some r) (fun a4192 => some a4192))
theorem laws_heldInt64S.calls {k : Nat} {x0 : List Int} {x1 : Int} {p0 : Value} {w : World} (hp0 : RdS kInt w p0 x0) {r : Int} (H : laws_heldInt64S.f k x0 x1 = some r) :
    Calls Try.prog 132 ([p0, .int .i64 x1] : List Value).toArray w (fun e w_ => ∃ v, e = .returned v ∧ v = (.int .i64 r) ∧ Mem w [] w_ []) := by
  have HM := Mem.start w
  refine calls_run (N := 21) Try.func132 rfl rfl rfl rfl ?_
  unfold laws_heldInt64S.f at H
  refine run_seq ?_
  refine run_region rfl ?_
  refine ops_ex rfl (guard_none rfl) rfl rfl (ex_assign rfl rfl) ?_
  refine ops_nil ?_
  refine at_then ?_
  obtain ⟨o4193, ho4194, H⟩ := bind_some H
  refine run_mid (fun ρ_ w_ => ∃ a4192 : Int, Sum.inr a4192 = o4193 ∧ ρ_ = [(1, .int .i64 a4192)] ∧ Mem w [] w_ []) ?_ ?_
  · skip
    refine run_seq ?_
    refine run_region rfl ?_
    refine ops_ex rfl (guard_none rfl) rfl rfl (ex_assign rfl rfl) ?_
    refine ops_nil ?_
    refine at_then ?_
    refine run_block ?_
    refine run_loop (fun k_ ρ_ w_ => ∃ a4199 : Int, ∃ a4200 : Int, laws_heldInt64S.l0 x0 k_ a4199 a4200 = some o4193 ∧ ρ_ = [(0, p0), (1, .int .i64 a4199), (5, .int .i64 a4200)] ∧ Mem w [] w_ []) k (ρ1 := [(0, p0), (1, .int .i64 x1), (5, .int .i64 0)]) ⟨_, _, ho4194, rfl, HM⟩ (Sub.cons rfl (Sub.cons rfl (Sub.cons rfl Sub.nil))) ?_
    clear HM ho4194
    rintro k4205 _ w4206 ⟨a4199, a4200, ho4194, rfl, HM⟩
    obtain _ | k4205 := k4205
    · exact nomatch ((laws_heldInt64S.l0_z x0 a4199 a4200).symm.trans ho4194)
    replace ho4194 := (laws_heldInt64S.l0_s x0 k4205 a4199 a4200).symm.trans ho4194
    refine run_seq ?_
    refine run_seq ?_
    refine run_region rfl ?_
    refine ops_ex rfl (guard_none rfl) rfl rfl (ex_move rfl rfl) ?_
    refine ops_ex rfl (guard_none rfl) rfl rfl (ex_move rfl rfl) ?_
    refine ops_ex rfl (guard_none rfl) rfl rfl (ex_len (d := kInt) (xs := x0) rfl rfl Try.underlying111 hp0) ?_
    refine ops_ex rfl (guard_none rfl) rfl rfl (ex_lss rfl rfl rfl) ?_
    refine ops_nil ?_
    refine at_then ?_
    refine run_cond (b := (decide (a4200 < (x0.length : Int)))) rfl (fun hb4207 => ?_) (fun hb4207 => ?_)
    · replace ho4194 := cond_t hb4207 ho4194
      refine run_skip ?_
      refine at_then ?_
      refine run_seq ?_
      refine run_block ?_
      refine run_seq ?_
      refine run_seq ?_
      obtain ⟨e4208, ho4194⟩ := chk_some ho4194
      refine run_region rfl ?_
      refine ops_ex rfl (guard_none rfl) rfl rfl (ex_move rfl rfl) ?_
      refine ops_ex rfl (guard_none rfl) rfl rfl (ex_move rfl rfl) ?_
      have hc4209 : CellsAt _ (sb p0) (so p0 + (a4200).toNat * 1) [(.int .i64 (gt x0 a4200))] := rd_plain hp0 e4208
      refine ops_ex rfl (guard_none rfl) rfl rfl (ex_indexAddr (d := kInt) rfl rfl rfl Try.underlying111 tsz2 hp0 (idx_lo e4208) (idx_hi e4208)) ?_
      refine ops_ex rfl (guard_none rfl) rfl rfl (ex_load1 rfl rfl Try.underlying2 rfl ((HM.at_ hc4209) 0 _ rfl)) ?_
      refine ops_ex rfl (guard_none rfl) rfl rfl (ex_move rfl rfl) ?_
      refine ops_ex rfl (guard_none rfl) rfl rfl (ex_neq rfl rfl rfl) ?_
      refine ops_nil ?_
      refine at_then ?_
      refine run_cond (b := ((gt x0 a4200) != a4199)) rfl (fun hb4210 => ?_) (fun hb4210 => ?_)
      · replace ho4194 := cond_t hb4210 ho4194
        refine run_seq ?_
        refine run_region rfl ?_
        refine ops_ex rfl (guard_none rfl) rfl rfl (ex_assign rfl rfl) ?_
        refine ops_nil ?_
        refine at_then ?_
        refine run_ret ?_
        refine at_then_ret ?_
        refine at_block_ret ?_
        refine at_then_ret ?_
        refine at_then_ret ?_
        refine at_block_ret ?_
        refine at_then_ret ?_
        have hR := Option.some.inj ho4194
        subst hR
        have hT := thn_inl H
        have hR := Option.some.inj hT
        subst hR
        exact at_ret1 rfl rfl ⟨_, rfl, rfl, HM⟩
      · replace ho4194 := cond_f hb4210 ho4194
        refine run_skip ?_
        refine at_then ?_
        refine run_region rfl ?_
        refine ops_ex rfl (guard_none rfl) rfl rfl (ex_move rfl rfl) ?_
        refine ops_ex rfl (guard_none rfl) rfl rfl (ex_add rfl rfl rfl) ?_
        refine ops_ex rfl (guard_none rfl) rfl rfl (ex_assign rfl rfl) ?_
        refine ops_nil ?_
        refine at_block ?_
        refine at_then ?_
        refine run_region rfl ?_
        refine ops_ex rfl (guard_none rfl) rfl rfl (ex_move rfl rfl) ?_
        refine ops_ex rfl (guard_none rfl) rfl rfl (ex_add rfl rfl rfl) ?_
        refine ops_ex rfl (guard_none rfl) rfl rfl (ex_assign rfl rfl) ?_
        refine ops_nil ?_
        exact at_again k4205 (ρ1 := [(0, p0), (1, .int .i64 (wrap64 (a4199 + 1))), (5, .int .i64 (wrap64 (a4200 + 1)))]) (Nat.lt_succ_self _) ⟨_, _, ho4194, rfl, HM⟩ (Sub.cons rfl (Sub.cons rfl (Sub.cons rfl Sub.nil)))
    · replace ho4194 := cond_f hb4207 ho4194
      refine run_exit ?_
      refine at_then_exit ?_
      refine at_then_exit ?_
      refine at_block_exit ?_
      exact at_mid (ρ' := [(1, .int .i64 a4199)]) ⟨_, (Option.some.inj ho4194), rfl, HM⟩ (Sub.cons rfl Sub.nil)
  · rintro _ w4211 ⟨a4192, rfl, rfl, HM⟩
    replace H := (thn_inr H)
    refine run_seq ?_
    refine run_region rfl ?_
    refine ops_ex rfl (guard_none rfl) rfl rfl (ex_move rfl rfl) ?_
    refine ops_ex rfl (guard_none rfl) rfl rfl (ex_assign rfl rfl) ?_
    refine ops_nil ?_
    refine at_then ?_
    refine run_ret ?_
    have hR := Option.some.inj H
    subst hR
    exact at_ret1 rfl rfl ⟨_, rfl, rfl, HM⟩

def laws_heldCoinS.l0 (x0 : List Coin) : Nat → Int → Int → Option (Int ⊕ Int)
  | 0, _, _ => none
  | k + 1, a4712, a4713 => (bif (decide (a4713 < (x0.length : Int))) then (chk (idxOk a4713 x0.length) (bif (((gt x0 a4713).fRef.fTx) != a4712) then some (.inl (-1)) else (chk (idxOk a4713 x0.length) (bif (((gt x0 a4713).fRef.fAt) != (wrap64 (a4712 + 1))) then some (.inl (-1)) else (chk (idxOk a4713 x0.length) (bif (((gt x0 a4713).fOut.fValue) != (wrap64 ((wrap64 (a4712 + 1)) + 1))) then some (.inl (-1)) else (chk (idxOk a4713 x0.length) ((laws_heldInt64S.f k ((gt x0 a4713).fOut.fRule.fKeys) (wrap64 ((wrap64 ((wrap64 (a4712 + 1)) + 1)) + 1))).bind fun t4826 => (bif (decide (t4826 < 0)) then some (.inl (-1)) else (chk (idxOk a4713 x0.length) (bif (((gt x0 a4713).fOut.fRule.fNeed) != t4826) then some (.inl (-1)) else (chk (idxOk a4713 x0.length) (bif (((gt x0 a4713).fOut.fRule.fAfter) != (wrap64 (t4826 + 1))) then some (.inl (-1)) else (chk (idxOk a4713 x0.length) (bif (((gt x0 a4713).fHeight) != (wrap64 ((wrap64 (t4826 + 1)) + 1))) then some (.inl (-1)) else (chk (idxOk a4713 x0.length) (chk ((3 : Int) != 0) (bif (((gt x0 a4713).fMined) != ((Int.tmod (wrap64 ((wrap64 ((wrap64 (t4826 + 1)) + 1)) + 1)) (3 : Int)) == 0)) then some (.inl (-1)) else laws_heldCoinS.l0 x0 k (wrap64 ((wrap64 ((wrap64 ((wrap64 (t4826 + 1)) + 1)) + 1)) + 1)) (wrap64 (a4713 + 1)))))))))))))))))))) else some (.inr a4712))
theorem laws_heldCoinS.l0_z (x0 : List Coin) (a4712 : Int) (a4713 : Int) : laws_heldCoinS.l0 x0 0 a4712 a4713 = none := rfl
theorem laws_heldCoinS.l0_s (x0 : List Coin) (k : Nat) (a4712 : Int) (a4713 : Int) : laws_heldCoinS.l0 x0 (k + 1) a4712 a4713 = (bif (decide (a4713 < (x0.length : Int))) then (chk (idxOk a4713 x0.length) (bif (((gt x0 a4713).fRef.fTx) != a4712) then some (.inl (-1)) else (chk (idxOk a4713 x0.length) (bif (((gt x0 a4713).fRef.fAt) != (wrap64 (a4712 + 1))) then some (.inl (-1)) else (chk (idxOk a4713 x0.length) (bif (((gt x0 a4713).fOut.fValue) != (wrap64 ((wrap64 (a4712 + 1)) + 1))) then some (.inl (-1)) else (chk (idxOk a4713 x0.length) ((laws_heldInt64S.f k ((gt x0 a4713).fOut.fRule.fKeys) (wrap64 ((wrap64 ((wrap64 (a4712 + 1)) + 1)) + 1))).bind fun t4826 => (bif (decide (t4826 < 0)) then some (.inl (-1)) else (chk (idxOk a4713 x0.length) (bif (((gt x0 a4713).fOut.fRule.fNeed) != t4826) then some (.inl (-1)) else (chk (idxOk a4713 x0.length) (bif (((gt x0 a4713).fOut.fRule.fAfter) != (wrap64 (t4826 + 1))) then some (.inl (-1)) else (chk (idxOk a4713 x0.length) (bif (((gt x0 a4713).fHeight) != (wrap64 ((wrap64 (t4826 + 1)) + 1))) then some (.inl (-1)) else (chk (idxOk a4713 x0.length) (chk ((3 : Int) != 0) (bif (((gt x0 a4713).fMined) != ((Int.tmod (wrap64 ((wrap64 ((wrap64 (t4826 + 1)) + 1)) + 1)) (3 : Int)) == 0)) then some (.inl (-1)) else laws_heldCoinS.l0 x0 k (wrap64 ((wrap64 ((wrap64 ((wrap64 (t4826 + 1)) + 1)) + 1)) + 1)) (wrap64 (a4713 + 1)))))))))))))))))))) else some (.inr a4712)) := rfl
def laws_heldCoinS.f (k : Nat) (x0 : List Coin) (x1 : Int) : Option Int := ((laws_heldCoinS.l0 x0 k x1 0).bind fun o4635 => thn o4635 (fun r => some r) (fun a4634 => some a4634))
theorem laws_heldCoinS.calls {k : Nat} {x0 : List Coin} {x1 : Int} {p0 : Value} {w : World} (hp0 : RdS kCoin w p0 x0) {r : Int} (H : laws_heldCoinS.f k x0 x1 = some r) :
    Calls Try.prog 85 ([p0, .int .i64 x1] : List Value).toArray w (fun e w_ => ∃ v, e = .returned v ∧ v = (.int .i64 r) ∧ Mem w [] w_ []) := by
  have HM := Mem.start w
  refine calls_run (N := 96) Try.func85 rfl rfl rfl rfl ?_
  unfold laws_heldCoinS.f at H
  refine run_seq ?_
  refine run_region rfl ?_
  refine ops_ex rfl (guard_none rfl) rfl rfl (ex_assign rfl rfl) ?_
  refine ops_nil ?_
  refine at_then ?_
  obtain ⟨o4635, ho4636, H⟩ := bind_some H
  refine run_mid (fun ρ_ w_ => ∃ a4634 : Int, Sum.inr a4634 = o4635 ∧ ρ_ = [(1, .int .i64 a4634)] ∧ Mem w [] w_ []) ?_ ?_
  · skip
    refine run_seq ?_
    refine run_region rfl ?_
    refine ops_ex rfl (guard_none rfl) rfl rfl (ex_assign rfl rfl) ?_
    refine ops_nil ?_
    refine at_then ?_
    refine run_block ?_
    refine run_loop (fun k_ ρ_ w_ => ∃ a4712 : Int, ∃ a4713 : Int, laws_heldCoinS.l0 x0 k_ a4712 a4713 = some o4635 ∧ ρ_ = [(0, p0), (1, .int .i64 a4712), (5, .int .i64 a4713)] ∧ Mem w [] w_ []) k (ρ1 := [(0, p0), (1, .int .i64 x1), (5, .int .i64 0)]) ⟨_, _, ho4636, rfl, HM⟩ (Sub.cons rfl (Sub.cons rfl (Sub.cons rfl Sub.nil))) ?_
    clear HM ho4636
    rintro k4789 _ w4790 ⟨a4712, a4713, ho4636, rfl, HM⟩
    obtain _ | k4789 := k4789
    · exact nomatch ((laws_heldCoinS.l0_z x0 a4712 a4713).symm.trans ho4636)
    replace ho4636 := (laws_heldCoinS.l0_s x0 k4789 a4712 a4713).symm.trans ho4636
    refine run_seq ?_
    refine run_seq ?_
    refine run_region rfl ?_
    refine ops_ex rfl (guard_none rfl) rfl rfl (ex_move rfl rfl) ?_
    refine ops_ex rfl (guard_none rfl) rfl rfl (ex_move rfl rfl) ?_
    refine ops_ex rfl (guard_none rfl) rfl rfl (ex_len (d := kCoin) (xs := x0) rfl rfl Try.underlying44 hp0) ?_
    refine ops_ex rfl (guard_none rfl) rfl rfl (ex_lss rfl rfl rfl) ?_
    refine ops_nil ?_
    refine at_then ?_
    refine run_cond (b := (decide (a4713 < (x0.length : Int)))) rfl (fun hb4791 => ?_) (fun hb4791 => ?_)
    · replace ho4636 := cond_t hb4791 ho4636
      refine run_skip ?_
      refine at_then ?_
      refine run_seq ?_
      refine run_block ?_
      refine run_seq ?_
      refine run_seq ?_
      obtain ⟨e4797, ho4636⟩ := chk_some ho4636
      refine run_region rfl ?_
      refine ops_ex rfl (guard_none rfl) rfl rfl (ex_move rfl rfl) ?_
      refine ops_ex rfl (guard_none rfl) rfl rfl (ex_move rfl rfl) ?_
      obtain ⟨kv4799, hc4798, hk4800⟩ : ∃ u, CellsAt _ (sb p0) (so p0 + (a4713).toNat * 8) [(.int .i64 ((gt x0 a4713).fRef.fTx)), (.int .i64 ((gt x0 a4713).fRef.fAt)), (.int .i64 ((gt x0 a4713).fOut.fValue)), u, (.int .i64 ((gt x0 a4713).fOut.fRule.fNeed)), (.int .i64 ((gt x0 a4713).fOut.fRule.fAfter)), (.int .i64 ((gt x0 a4713).fHeight)), (.bool ((gt x0 a4713).fMined))] ∧ RdS kInt _ u ((gt x0 a4713).fOut.fRule.fKeys) := rd_with1 hp0 e4797
      refine ops_ex rfl (guard_none rfl) rfl rfl (ex_indexAddr (d := kCoin) rfl rfl rfl Try.underlying44 tsz123 hp0 (idx_lo e4797) (idx_hi e4797)) ?_
      refine ops_ex rfl (guard_none rfl) rfl rfl (ex_fieldAddr (off' := so p0 + (a4713).toNat * 8) rfl rfl Try.underlying123 rfl tsz54 rfl) ?_
      refine ops_ex rfl (guard_none rfl) rfl rfl (ex_fieldAddr (off' := so p0 + (a4713).toNat * 8) rfl rfl Try.underlying54 rfl tsz2 rfl) ?_
      refine ops_ex rfl (guard_none rfl) rfl rfl (ex_load1 rfl rfl Try.underlying2 rfl ((HM.at_ hc4798) 0 _ rfl)) ?_
      refine ops_ex rfl (guard_none rfl) rfl rfl (ex_move rfl rfl) ?_
      refine ops_ex rfl (guard_none rfl) rfl rfl (ex_neq rfl rfl rfl) ?_
      refine ops_nil ?_
      refine at_then ?_
      refine run_cond (b := (((gt x0 a4713).fRef.fTx) != a4712)) rfl (fun hb4801 => ?_) (fun hb4801 => ?_)
      · replace ho4636 := cond_t hb4801 ho4636
        refine run_seq ?_
        refine run_region rfl ?_
        refine ops_ex rfl (guard_none rfl) rfl rfl (ex_assign rfl rfl) ?_
        refine ops_nil ?_
        refine at_then ?_
        refine run_ret ?_
        refine at_then_ret ?_
        refine at_block_ret ?_
        refine at_then_ret ?_
        refine at_then_ret ?_
        refine at_block_ret ?_
        refine at_then_ret ?_
        have hR := Option.some.inj ho4636
        subst hR
        have hT := thn_inl H
        have hR := Option.some.inj hT
        subst hR
        exact at_ret1 rfl rfl ⟨_, rfl, rfl, HM⟩
      · replace ho4636 := cond_f hb4801 ho4636
        refine run_skip ?_
        refine at_then ?_
        refine run_seq ?_
        refine run_region rfl ?_
        refine ops_ex rfl (guard_none rfl) rfl rfl (ex_move rfl rfl) ?_
        refine ops_ex rfl (guard_none rfl) rfl rfl (ex_add rfl rfl rfl) ?_
        refine ops_ex rfl (guard_none rfl) rfl rfl (ex_assign rfl rfl) ?_
        refine ops_nil ?_
        refine at_then ?_
        refine run_seq ?_
        refine run_seq ?_
        obtain ⟨e4807, ho4636⟩ := chk_some ho4636
        refine run_region rfl ?_
        refine ops_ex rfl (guard_none rfl) rfl rfl (ex_move rfl rfl) ?_
        refine ops_ex rfl (guard_none rfl) rfl rfl (ex_move rfl rfl) ?_
        obtain ⟨kv4809, hc4808, hk4810⟩ : ∃ u, CellsAt _ (sb p0) (so p0 + (a4713).toNat * 8) [(.int .i64 ((gt x0 a4713).fRef.fTx)), (.int .i64 ((gt x0 a4713).fRef.fAt)), (.int .i64 ((gt x0 a4713).fOut.fValue)), u, (.int .i64 ((gt x0 a4713).fOut.fRule.fNeed)), (.int .i64 ((gt x0 a4713).fOut.fRule.fAfter)), (.int .i64 ((gt x0 a4713).fHeight)), (.bool ((gt x0 a4713).fMined))] ∧ RdS kInt _ u ((gt x0 a4713).fOut.fRule.fKeys) := rd_with1 hp0 e4807
        refine ops_ex rfl (guard_none rfl) rfl rfl (ex_indexAddr (d := kCoin) rfl rfl rfl Try.underlying44 tsz123 hp0 (idx_lo e4807) (idx_hi e4807)) ?_
        refine ops_ex rfl (guard_none rfl) rfl rfl (ex_fieldAddr (off' := so p0 + (a4713).toNat * 8) rfl rfl Try.underlying123 rfl tsz54 rfl) ?_
        refine ops_ex rfl (guard_none rfl) rfl rfl (ex_fieldAddr (off' := so p0 + (a4713).toNat * 8 + 1) rfl rfl Try.underlying54 rfl tsz2 rfl) ?_
        refine ops_ex rfl (guard_none rfl) rfl rfl (ex_load1 rfl rfl Try.underlying2 rfl ((HM.at_ hc4808) 1 _ rfl)) ?_
        refine ops_ex rfl (guard_none rfl) rfl rfl (ex_move rfl rfl) ?_
        refine ops_ex rfl (guard_none rfl) rfl rfl (ex_neq rfl rfl rfl) ?_
        refine ops_nil ?_
        refine at_then ?_
        refine run_cond (b := (((gt x0 a4713).fRef.fAt) != (wrap64 (a4712 + 1)))) rfl (fun hb4811 => ?_) (fun hb4811 => ?_)
        · replace ho4636 := cond_t hb4811 ho4636
          refine run_seq ?_
          refine run_region rfl ?_
          refine ops_ex rfl (guard_none rfl) rfl rfl (ex_assign rfl rfl) ?_
          refine ops_nil ?_
          refine at_then ?_
          refine run_ret ?_
          refine at_then_ret ?_
          refine at_block_ret ?_
          refine at_then_ret ?_
          refine at_then_ret ?_
          refine at_block_ret ?_
          refine at_then_ret ?_
          have hR := Option.some.inj ho4636
          subst hR
          have hT := thn_inl H
          have hR := Option.some.inj hT
          subst hR
          exact at_ret1 rfl rfl ⟨_, rfl, rfl, HM⟩
        · replace ho4636 := cond_f hb4811 ho4636
          refine run_skip ?_
          refine at_then ?_
          refine run_seq ?_
          refine run_region rfl ?_
          refine ops_ex rfl (guard_none rfl) rfl rfl (ex_move rfl rfl) ?_
          refine ops_ex rfl (guard_none rfl) rfl rfl (ex_add rfl rfl rfl) ?_
          refine ops_ex rfl (guard_none rfl) rfl rfl (ex_assign rfl rfl) ?_
          refine ops_nil ?_
          refine at_then ?_
          refine run_seq ?_
          refine run_seq ?_
          obtain ⟨e4817, ho4636⟩ := chk_some ho4636
          refine run_region rfl ?_
          refine ops_ex rfl (guard_none rfl) rfl rfl (ex_move rfl rfl) ?_
          refine ops_ex rfl (guard_none rfl) rfl rfl (ex_move rfl rfl) ?_
          obtain ⟨kv4819, hc4818, hk4820⟩ : ∃ u, CellsAt _ (sb p0) (so p0 + (a4713).toNat * 8) [(.int .i64 ((gt x0 a4713).fRef.fTx)), (.int .i64 ((gt x0 a4713).fRef.fAt)), (.int .i64 ((gt x0 a4713).fOut.fValue)), u, (.int .i64 ((gt x0 a4713).fOut.fRule.fNeed)), (.int .i64 ((gt x0 a4713).fOut.fRule.fAfter)), (.int .i64 ((gt x0 a4713).fHeight)), (.bool ((gt x0 a4713).fMined))] ∧ RdS kInt _ u ((gt x0 a4713).fOut.fRule.fKeys) := rd_with1 hp0 e4817
          refine ops_ex rfl (guard_none rfl) rfl rfl (ex_indexAddr (d := kCoin) rfl rfl rfl Try.underlying44 tsz123 hp0 (idx_lo e4817) (idx_hi e4817)) ?_
          refine ops_ex rfl (guard_none rfl) rfl rfl (ex_fieldAddr (off' := so p0 + (a4713).toNat * 8 + 2) rfl rfl Try.underlying123 rfl tsz121 rfl) ?_
          refine ops_ex rfl (guard_none rfl) rfl rfl (ex_fieldAddr (off' := so p0 + (a4713).toNat * 8 + 2) rfl rfl Try.underlying121 rfl tsz2 rfl) ?_
          refine ops_ex rfl (guard_none rfl) rfl rfl (ex_load1 rfl rfl Try.underlying2 rfl ((HM.at_ hc4818) 2 _ rfl)) ?_
          refine ops_ex rfl (guard_none rfl) rfl rfl (ex_move rfl rfl) ?_
          refine ops_ex rfl (guard_none rfl) rfl rfl (ex_neq rfl rfl rfl) ?_
          refine ops_nil ?_
          refine at_then ?_
          refine run_cond (b := (((gt x0 a4713).fOut.fValue) != (wrap64 ((wrap64 (a4712 + 1)) + 1)))) rfl (fun hb4821 => ?_) (fun hb4821 => ?_)
          · replace ho4636 := cond_t hb4821 ho4636
            refine run_seq ?_
            refine run_region rfl ?_
            refine ops_ex rfl (guard_none rfl) rfl rfl (ex_assign rfl rfl) ?_
            refine ops_nil ?_
            refine at_then ?_
            refine run_ret ?_
            refine at_then_ret ?_
            refine at_block_ret ?_
            refine at_then_ret ?_
            refine at_then_ret ?_
            refine at_block_ret ?_
            refine at_then_ret ?_
            have hR := Option.some.inj ho4636
            subst hR
            have hT := thn_inl H
            have hR := Option.some.inj hT
            subst hR
            exact at_ret1 rfl rfl ⟨_, rfl, rfl, HM⟩
          · replace ho4636 := cond_f hb4821 ho4636
            refine run_skip ?_
            refine at_then ?_
            refine run_seq ?_
            refine run_region rfl ?_
            refine ops_ex rfl (guard_none rfl) rfl rfl (ex_move rfl rfl) ?_
            refine ops_ex rfl (guard_none rfl) rfl rfl (ex_add rfl rfl rfl) ?_
            refine ops_ex rfl (guard_none rfl) rfl rfl (ex_assign rfl rfl) ?_
            refine ops_nil ?_
            refine at_then ?_
            refine run_seq ?_
            obtain ⟨e4822, ho4636⟩ := chk_some ho4636
            obtain ⟨t4826, h4827, ho4636⟩ := bind_some ho4636
            refine run_region rfl ?_
            refine ops_ex rfl (guard_none rfl) rfl rfl (ex_move rfl rfl) ?_
            refine ops_ex rfl (guard_none rfl) rfl rfl (ex_move rfl rfl) ?_
            obtain ⟨kv4824, hc4823, hk4825⟩ : ∃ u, CellsAt _ (sb p0) (so p0 + (a4713).toNat * 8) [(.int .i64 ((gt x0 a4713).fRef.fTx)), (.int .i64 ((gt x0 a4713).fRef.fAt)), (.int .i64 ((gt x0 a4713).fOut.fValue)), u, (.int .i64 ((gt x0 a4713).fOut.fRule.fNeed)), (.int .i64 ((gt x0 a4713).fOut.fRule.fAfter)), (.int .i64 ((gt x0 a4713).fHeight)), (.bool ((gt x0 a4713).fMined))] ∧ RdS kInt _ u ((gt x0 a4713).fOut.fRule.fKeys) := rd_with1 hp0 e4822
            refine ops_ex rfl (guard_none rfl) rfl rfl (ex_indexAddr (d := kCoin) rfl rfl rfl Try.underlying44 tsz123 hp0 (idx_lo e4822) (idx_hi e4822)) ?_
            refine ops_ex rfl (guard_none rfl) rfl rfl (ex_fieldAddr (off' := so p0 + (a4713).toNat * 8 + 2) rfl rfl Try.underlying123 rfl tsz121 rfl) ?_
            refine ops_ex rfl (guard_none rfl) rfl rfl (ex_fieldAddr (off' := so p0 + (a4713).toNat * 8 + 3) rfl rfl Try.underlying121 rfl tsz119 rfl) ?_
            refine ops_ex rfl (guard_none rfl) rfl rfl (ex_fieldAddr (off' := so p0 + (a4713).toNat * 8 + 3) rfl rfl Try.underlying119 rfl tsz111 rfl) ?_
            refine ops_ex rfl (guard_none rfl) rfl rfl (ex_load1 rfl rfl Try.underlying111 rfl ((HM.at_ hc4823) 3 _ rfl)) ?_
            refine ops_ex rfl (guard_none rfl) rfl rfl (ex_move rfl rfl) ?_
            refine ops_does rfl (guard_none rfl) rfl rfl (does_callk rfl callok132 rfl (laws_heldInt64S.calls (x0 := (gt x0 a4713).fOut.fRule.fKeys) (x1 := wrap64 ((wrap64 ((wrap64 (a4712 + 1)) + 1)) + 1)) (HM.rd hk4825) h4827)) ?_
            rintro _ w4828 ⟨rfl, hn⟩
            replace HM : Mem w [] w4828 [] := HM.call hn
            refine ops_ex rfl (guard_none rfl) rfl rfl (ex_assign rfl rfl) ?_
            refine ops_nil ?_
            refine at_then ?_
            refine run_seq ?_
            refine run_seq ?_
            refine run_region rfl ?_
            refine ops_ex rfl (guard_none rfl) rfl rfl (ex_move rfl rfl) ?_
            refine ops_ex rfl (guard_none rfl) rfl rfl (ex_lss rfl rfl rfl) ?_
            refine ops_nil ?_
            refine at_then ?_
            refine run_cond (b := (decide (t4826 < 0))) rfl (fun hb4830 => ?_) (fun hb4830 => ?_)
            · replace ho4636 := cond_t hb4830 ho4636
              refine run_seq ?_
              refine run_region rfl ?_
              refine ops_ex rfl (guard_none rfl) rfl rfl (ex_assign rfl rfl) ?_
              refine ops_nil ?_
              refine at_then ?_
              refine run_ret ?_
              refine at_then_ret ?_
              refine at_block_ret ?_
              refine at_then_ret ?_
              refine at_then_ret ?_
              refine at_block_ret ?_
              refine at_then_ret ?_
              have hR := Option.some.inj ho4636
              subst hR
              have hT := thn_inl H
              have hR := Option.some.inj hT
              subst hR
              exact at_ret1 rfl rfl ⟨_, rfl, rfl, HM⟩
            · replace ho4636 := cond_f hb4830 ho4636
              refine run_skip ?_
              refine at_then ?_
              refine run_seq ?_
              refine run_seq ?_
              obtain ⟨e4836, ho4636⟩ := chk_some ho4636
              refine run_region rfl ?_
              refine ops_ex rfl (guard_none rfl) rfl rfl (ex_move rfl rfl) ?_
              refine ops_ex rfl (guard_none rfl) rfl rfl (ex_move rfl rfl) ?_
              obtain ⟨kv4838, hc4837, hk4839⟩ : ∃ u, CellsAt _ (sb p0) (so p0 + (a4713).toNat * 8) [(.int .i64 ((gt x0 a4713).fRef.fTx)), (.int .i64 ((gt x0 a4713).fRef.fAt)), (.int .i64 ((gt x0 a4713).fOut.fValue)), u, (.int .i64 ((gt x0 a4713).fOut.fRule.fNeed)), (.int .i64 ((gt x0 a4713).fOut.fRule.fAfter)), (.int .i64 ((gt x0 a4713).fHeight)), (.bool ((gt x0 a4713).fMined))] ∧ RdS kInt _ u ((gt x0 a4713).fOut.fRule.fKeys) := rd_with1 hp0 e4836
              refine ops_ex rfl (guard_none rfl) rfl rfl (ex_indexAddr (d := kCoin) rfl rfl rfl Try.underlying44 tsz123 hp0 (idx_lo e4836) (idx_hi e4836)) ?_
              refine ops_ex rfl (guard_none rfl) rfl rfl (ex_fieldAddr (off' := so p0 + (a4713).toNat * 8 + 2) rfl rfl Try.underlying123 rfl tsz121 rfl) ?_
              refine ops_ex rfl (guard_none rfl) rfl rfl (ex_fieldAddr (off' := so p0 + (a4713).toNat * 8 + 3) rfl rfl Try.underlying121 rfl tsz119 rfl) ?_
              refine ops_ex rfl (guard_none rfl) rfl rfl (ex_fieldAddr (off' := so p0 + (a4713).toNat * 8 + 4) rfl rfl Try.underlying119 rfl tsz2 rfl) ?_
              refine ops_ex rfl (guard_none rfl) rfl rfl (ex_load1 rfl rfl Try.underlying2 rfl ((HM.at_ hc4837) 4 _ rfl)) ?_
              refine ops_ex rfl (guard_none rfl) rfl rfl (ex_move rfl rfl) ?_
              refine ops_ex rfl (guard_none rfl) rfl rfl (ex_neq rfl rfl rfl) ?_
              refine ops_nil ?_
              refine at_then ?_
              refine run_cond (b := (((gt x0 a4713).fOut.fRule.fNeed) != t4826)) rfl (fun hb4840 => ?_) (fun hb4840 => ?_)
              · replace ho4636 := cond_t hb4840 ho4636
                refine run_seq ?_
                refine run_region rfl ?_
                refine ops_ex rfl (guard_none rfl) rfl rfl (ex_assign rfl rfl) ?_
                refine ops_nil ?_
                refine at_then ?_
                refine run_ret ?_
                refine at_then_ret ?_
                refine at_block_ret ?_
                refine at_then_ret ?_
                refine at_then_ret ?_
                refine at_block_ret ?_
                refine at_then_ret ?_
                have hR := Option.some.inj ho4636
                subst hR
                have hT := thn_inl H
                have hR := Option.some.inj hT
                subst hR
                exact at_ret1 rfl rfl ⟨_, rfl, rfl, HM⟩
              · replace ho4636 := cond_f hb4840 ho4636
                refine run_skip ?_
                refine at_then ?_
                refine run_seq ?_
                refine run_region rfl ?_
                refine ops_ex rfl (guard_none rfl) rfl rfl (ex_move rfl rfl) ?_
                refine ops_ex rfl (guard_none rfl) rfl rfl (ex_add rfl rfl rfl) ?_
                refine ops_ex rfl (guard_none rfl) rfl rfl (ex_assign rfl rfl) ?_
                refine ops_nil ?_
                refine at_then ?_
                refine run_seq ?_
                refine run_seq ?_
                obtain ⟨e4846, ho4636⟩ := chk_some ho4636
                refine run_region rfl ?_
                refine ops_ex rfl (guard_none rfl) rfl rfl (ex_move rfl rfl) ?_
                refine ops_ex rfl (guard_none rfl) rfl rfl (ex_move rfl rfl) ?_
                obtain ⟨kv4848, hc4847, hk4849⟩ : ∃ u, CellsAt _ (sb p0) (so p0 + (a4713).toNat * 8) [(.int .i64 ((gt x0 a4713).fRef.fTx)), (.int .i64 ((gt x0 a4713).fRef.fAt)), (.int .i64 ((gt x0 a4713).fOut.fValue)), u, (.int .i64 ((gt x0 a4713).fOut.fRule.fNeed)), (.int .i64 ((gt x0 a4713).fOut.fRule.fAfter)), (.int .i64 ((gt x0 a4713).fHeight)), (.bool ((gt x0 a4713).fMined))] ∧ RdS kInt _ u ((gt x0 a4713).fOut.fRule.fKeys) := rd_with1 hp0 e4846
                refine ops_ex rfl (guard_none rfl) rfl rfl (ex_indexAddr (d := kCoin) rfl rfl rfl Try.underlying44 tsz123 hp0 (idx_lo e4846) (idx_hi e4846)) ?_
                refine ops_ex rfl (guard_none rfl) rfl rfl (ex_fieldAddr (off' := so p0 + (a4713).toNat * 8 + 2) rfl rfl Try.underlying123 rfl tsz121 rfl) ?_
                refine ops_ex rfl (guard_none rfl) rfl rfl (ex_fieldAddr (off' := so p0 + (a4713).toNat * 8 + 3) rfl rfl Try.underlying121 rfl tsz119 rfl) ?_
                refine ops_ex rfl (guard_none rfl) rfl rfl (ex_fieldAddr (off' := so p0 + (a4713).toNat * 8 + 5) rfl rfl Try.underlying119 rfl tsz2 rfl) ?_
                refine ops_ex rfl (guard_none rfl) rfl rfl (ex_load1 rfl rfl Try.underlying2 rfl ((HM.at_ hc4847) 5 _ rfl)) ?_
                refine ops_ex rfl (guard_none rfl) rfl rfl (ex_move rfl rfl) ?_
                refine ops_ex rfl (guard_none rfl) rfl rfl (ex_neq rfl rfl rfl) ?_
                refine ops_nil ?_
                refine at_then ?_
                refine run_cond (b := (((gt x0 a4713).fOut.fRule.fAfter) != (wrap64 (t4826 + 1)))) rfl (fun hb4850 => ?_) (fun hb4850 => ?_)
                · replace ho4636 := cond_t hb4850 ho4636
                  refine run_seq ?_
                  refine run_region rfl ?_
                  refine ops_ex rfl (guard_none rfl) rfl rfl (ex_assign rfl rfl) ?_
                  refine ops_nil ?_
                  refine at_then ?_
                  refine run_ret ?_
                  refine at_then_ret ?_
                  refine at_block_ret ?_
                  refine at_then_ret ?_
                  refine at_then_ret ?_
                  refine at_block_ret ?_
                  refine at_then_ret ?_
                  have hR := Option.some.inj ho4636
                  subst hR
                  have hT := thn_inl H
                  have hR := Option.some.inj hT
                  subst hR
                  exact at_ret1 rfl rfl ⟨_, rfl, rfl, HM⟩
                · replace ho4636 := cond_f hb4850 ho4636
                  refine run_skip ?_
                  refine at_then ?_
                  refine run_seq ?_
                  refine run_region rfl ?_
                  refine ops_ex rfl (guard_none rfl) rfl rfl (ex_move rfl rfl) ?_
                  refine ops_ex rfl (guard_none rfl) rfl rfl (ex_add rfl rfl rfl) ?_
                  refine ops_ex rfl (guard_none rfl) rfl rfl (ex_assign rfl rfl) ?_
                  refine ops_nil ?_
                  refine at_then ?_
                  refine run_seq ?_
                  refine run_seq ?_
                  obtain ⟨e4856, ho4636⟩ := chk_some ho4636
                  refine run_region rfl ?_
                  refine ops_ex rfl (guard_none rfl) rfl rfl (ex_move rfl rfl) ?_
                  refine ops_ex rfl (guard_none rfl) rfl rfl (ex_move rfl rfl) ?_
                  obtain ⟨kv4858, hc4857, hk4859⟩ : ∃ u, CellsAt _ (sb p0) (so p0 + (a4713).toNat * 8) [(.int .i64 ((gt x0 a4713).fRef.fTx)), (.int .i64 ((gt x0 a4713).fRef.fAt)), (.int .i64 ((gt x0 a4713).fOut.fValue)), u, (.int .i64 ((gt x0 a4713).fOut.fRule.fNeed)), (.int .i64 ((gt x0 a4713).fOut.fRule.fAfter)), (.int .i64 ((gt x0 a4713).fHeight)), (.bool ((gt x0 a4713).fMined))] ∧ RdS kInt _ u ((gt x0 a4713).fOut.fRule.fKeys) := rd_with1 hp0 e4856
                  refine ops_ex rfl (guard_none rfl) rfl rfl (ex_indexAddr (d := kCoin) rfl rfl rfl Try.underlying44 tsz123 hp0 (idx_lo e4856) (idx_hi e4856)) ?_
                  refine ops_ex rfl (guard_none rfl) rfl rfl (ex_fieldAddr (off' := so p0 + (a4713).toNat * 8 + 6) rfl rfl Try.underlying123 rfl tsz2 rfl) ?_
                  refine ops_ex rfl (guard_none rfl) rfl rfl (ex_load1 rfl rfl Try.underlying2 rfl ((HM.at_ hc4857) 6 _ rfl)) ?_
                  refine ops_ex rfl (guard_none rfl) rfl rfl (ex_move rfl rfl) ?_
                  refine ops_ex rfl (guard_none rfl) rfl rfl (ex_neq rfl rfl rfl) ?_
                  refine ops_nil ?_
                  refine at_then ?_
                  refine run_cond (b := (((gt x0 a4713).fHeight) != (wrap64 ((wrap64 (t4826 + 1)) + 1)))) rfl (fun hb4860 => ?_) (fun hb4860 => ?_)
                  · replace ho4636 := cond_t hb4860 ho4636
                    refine run_seq ?_
                    refine run_region rfl ?_
                    refine ops_ex rfl (guard_none rfl) rfl rfl (ex_assign rfl rfl) ?_
                    refine ops_nil ?_
                    refine at_then ?_
                    refine run_ret ?_
                    refine at_then_ret ?_
                    refine at_block_ret ?_
                    refine at_then_ret ?_
                    refine at_then_ret ?_
                    refine at_block_ret ?_
                    refine at_then_ret ?_
                    have hR := Option.some.inj ho4636
                    subst hR
                    have hT := thn_inl H
                    have hR := Option.some.inj hT
                    subst hR
                    exact at_ret1 rfl rfl ⟨_, rfl, rfl, HM⟩
                  · replace ho4636 := cond_f hb4860 ho4636
                    refine run_skip ?_
                    refine at_then ?_
                    refine run_seq ?_
                    refine run_region rfl ?_
                    refine ops_ex rfl (guard_none rfl) rfl rfl (ex_move rfl rfl) ?_
                    refine ops_ex rfl (guard_none rfl) rfl rfl (ex_add rfl rfl rfl) ?_
                    refine ops_ex rfl (guard_none rfl) rfl rfl (ex_assign rfl rfl) ?_
                    refine ops_nil ?_
                    refine at_then ?_
                    refine run_seq ?_
                    refine run_seq ?_
                    obtain ⟨e4861, ho4636⟩ := chk_some ho4636
                    obtain ⟨e4865, ho4636⟩ := chk_some ho4636
                    refine run_region rfl ?_
                    refine ops_ex rfl (guard_none rfl) rfl rfl (ex_move rfl rfl) ?_
                    refine ops_ex rfl (guard_none rfl) rfl rfl (ex_move rfl rfl) ?_
                    obtain ⟨kv4863, hc4862, hk4864⟩ : ∃ u, CellsAt _ (sb p0) (so p0 + (a4713).toNat * 8) [(.int .i64 ((gt x0 a4713).fRef.fTx)), (.int .i64 ((gt x0 a4713).fRef.fAt)), (.int .i64 ((gt x0 a4713).fOut.fValue)), u, (.int .i64 ((gt x0 a4713).fOut.fRule.fNeed)), (.int .i64 ((gt x0 a4713).fOut.fRule.fAfter)), (.int .i64 ((gt x0 a4713).fHeight)), (.bool ((gt x0 a4713).fMined))] ∧ RdS kInt _ u ((gt x0 a4713).fOut.fRule.fKeys) := rd_with1 hp0 e4861
                    refine ops_ex rfl (guard_none rfl) rfl rfl (ex_indexAddr (d := kCoin) rfl rfl rfl Try.underlying44 tsz123 hp0 (idx_lo e4861) (idx_hi e4861)) ?_
                    refine ops_ex rfl (guard_none rfl) rfl rfl (ex_fieldAddr (off' := so p0 + (a4713).toNat * 8 + 7) rfl rfl Try.underlying123 rfl tsz4 rfl) ?_
                    refine ops_ex rfl (guard_none rfl) rfl rfl (ex_load1 rfl rfl Try.underlying4 rfl ((HM.at_ hc4862) 7 _ rfl)) ?_
                    refine ops_ex rfl (guard_none rfl) rfl rfl (ex_move rfl rfl) ?_
                    refine ops_ex rfl (guard_none rfl) rfl rfl (ex_remk rfl rfl rfl e4865) ?_
                    refine ops_ex rfl (guard_none rfl) rfl rfl (ex_eql rfl rfl rfl) ?_
                    refine ops_ex rfl (guard_none rfl) rfl rfl (ex_bneq rfl rfl rfl Try.underlying4) ?_
                    refine ops_nil ?_
                    refine at_then ?_
                    refine run_cond (b := (((gt x0 a4713).fMined) != ((Int.tmod (wrap64 ((wrap64 ((wrap64 (t4826 + 1)) + 1)) + 1)) (3 : Int)) == 0))) rfl (fun hb4866 => ?_) (fun hb4866 => ?_)
                    · replace ho4636 := cond_t hb4866 ho4636
                      refine run_seq ?_
                      refine run_region rfl ?_
                      refine ops_ex rfl (guard_none rfl) rfl rfl (ex_assign rfl rfl) ?_
                      refine ops_nil ?_
                      refine at_then ?_
                      refine run_ret ?_
                      refine at_then_ret ?_
                      refine at_block_ret ?_
                      refine at_then_ret ?_
                      refine at_then_ret ?_
                      refine at_block_ret ?_
                      refine at_then_ret ?_
                      have hR := Option.some.inj ho4636
                      subst hR
                      have hT := thn_inl H
                      have hR := Option.some.inj hT
                      subst hR
                      exact at_ret1 rfl rfl ⟨_, rfl, rfl, HM⟩
                    · replace ho4636 := cond_f hb4866 ho4636
                      refine run_skip ?_
                      refine at_then ?_
                      refine run_region rfl ?_
                      refine ops_ex rfl (guard_none rfl) rfl rfl (ex_move rfl rfl) ?_
                      refine ops_ex rfl (guard_none rfl) rfl rfl (ex_add rfl rfl rfl) ?_
                      refine ops_ex rfl (guard_none rfl) rfl rfl (ex_assign rfl rfl) ?_
                      refine ops_nil ?_
                      refine at_block ?_
                      refine at_then ?_
                      refine run_region rfl ?_
                      refine ops_ex rfl (guard_none rfl) rfl rfl (ex_move rfl rfl) ?_
                      refine ops_ex rfl (guard_none rfl) rfl rfl (ex_add rfl rfl rfl) ?_
                      refine ops_ex rfl (guard_none rfl) rfl rfl (ex_assign rfl rfl) ?_
                      refine ops_nil ?_
                      exact at_again k4789 (ρ1 := [(0, p0), (1, .int .i64 (wrap64 ((wrap64 ((wrap64 ((wrap64 (t4826 + 1)) + 1)) + 1)) + 1))), (5, .int .i64 (wrap64 (a4713 + 1)))]) (Nat.lt_succ_self _) ⟨_, _, ho4636, rfl, HM⟩ (Sub.cons rfl (Sub.cons rfl (Sub.cons rfl Sub.nil)))
    · replace ho4636 := cond_f hb4791 ho4636
      refine run_exit ?_
      refine at_then_exit ?_
      refine at_then_exit ?_
      refine at_block_exit ?_
      exact at_mid (ρ' := [(1, .int .i64 a4712)]) ⟨_, (Option.some.inj ho4636), rfl, HM⟩ (Sub.cons rfl Sub.nil)
  · rintro _ w4867 ⟨a4634, rfl, rfl, HM⟩
    replace H := (thn_inr H)
    refine run_seq ?_
    refine run_region rfl ?_
    refine ops_ex rfl (guard_none rfl) rfl rfl (ex_move rfl rfl) ?_
    refine ops_ex rfl (guard_none rfl) rfl rfl (ex_assign rfl rfl) ?_
    refine ops_nil ?_
    refine at_then ?_
    refine run_ret ?_
    have hR := Option.some.inj H
    subst hR
    exact at_ret1 rfl rfl ⟨_, rfl, rfl, HM⟩
end Go.Proofs.Ytigojhglkilodaa.Zk
