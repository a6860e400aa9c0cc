/- The law FnExactCheckTx of the program, for whatever arguments: its walk, joined with the plain law; the tables as the program lays them; and the card. No condition. -/
import Derived.Test.YtpfaihnmonfkhaaGreatDoorRows
import Derived.Test.YtpfaihnmonfkhaaGreatDoorCheckTxZkF13
import Derived.Test.YtpfaihnmonfkhaaGreatDoorCheckTxZkOpn
import Derived.Test.YtpfaihnmonfkhaaGreatDoorPuFnExactCheckTx
import Derived.WalkKit
import Derived.ProofKit
import Derived.OpenShut
import Derived.ShutString
import Derived.ChangeOld
import Derived.Below
import Derived.SizedLaws
import Derived.Handed
import Derived.LaidMore
import Derived.Lay
import Derived.LaidOnce
import Derived.LaidLaws
import Derived.MakeChecks
import Derived.Lib.LaidTab
import Derived.Stop.LaidErr
import Derived.SevenTiedAt
import Derived.Test.YtpfaihnmonfkhaaGreatDoorTie
import Derived.Test.YtpfaihnmonfkhaaGreatDoorCards
namespace Go.Proofs.YtpfaihnmonfkhaaGreatDoor.fnExactCheckTx
open Go Go.ChangeShapes Go.WideShapes Go.ChangeAt Go.RowKit Go.Proofs.YtpfaihnmonfkhaaGreatDoor.Zk
open Go.ChangeMaps (open_string shut_string)
set_option linter.unusedVariables false
set_option linter.unnecessarySimpa false
theorem own : ownKnob Tryz.prog.godebug = none := by kernel_rfl
theorem tab {W : World} (h : laidMetH Tryz.prog Rows.fnExactCheckTxRow.laid W) : Tab W := by
  rw [MakeChecks.laidMetH_plain _ _ _ (by kernel_rfl)] at h
  exact Lib.tabIs_of_head (g := 0) (t := 204) (e := 185) (n := 20) (by kernel_rfl) (by kernel_rfl) (by kernel_rfl) (by kernel_rfl) (by kernel_rfl) (by kernel_rfl) h.tail.tail
set_option maxRecDepth 100000 in
theorem lifted (os : Os) (started : os.Started) (H : Type) (enc : TypeId × Value → H) :
    ReturnsInHanded {} Tryz.checked os 3 .any (fun w args => (Rows.fnExactCheckTxSpec.pre enc Tryz.prog Tryz.f3 [] false w args ∧ laidMetH Tryz.prog Rows.fnExactCheckTxRow.laid w) ∧ sizedMet enc Tryz.prog Tryz.f3 (OpenSpec.ofChange Rows.fnExactCheckTxSpec) false w args) (Rows.fnExactCheckTxSpec.post enc Tryz.prog Tryz.f3 false true false false) := by
  refine returnsInHanded_of_change_and (C := Tryz.checked) (X := fun w _ => laidMetH Tryz.prog Rows.fnExactCheckTxRow.laid w) (fun _ _ _ hh h => h.of_heap hh) own started (by kernel_rfl) Tryz.func3
    (ChangeSpec.witness_shaped (enc := enc) (C := Tryz.checked) (X := fun w _ => laidMetH Tryz.prog Rows.fnExactCheckTxRow.laid w) false (World.laidAll Tryz.prog os Rows.fnExactCheckTxRow.laid) #[.agg #[(.slice none 0 0), (.slice none 0 0)], .slice none 0 0, .agg #[(.int .i64 0), (.int .i64 0), (.slice none 0 0), (.slice none 0 0)], .int .i64 0] 8 (World.laidAll_os _ _ _) (World.shaped_of_ZipB (by kernel_rfl) (by kernel_rfl)) (by kernel_rfl) (by kernel_rfl) (by kernel_rfl)
      (by rw [MakeChecks.laidMetH_plain _ _ _ (by kernel_rfl)]; exact laidMet_laidAll _ (by kernel_rfl) (by kernel_rfl))) ?_
  intro W base args ds gs before hval0 hW hcnd hsz0 hL _
  have htab : Tab W := tab hL
  have hval : ∀ (j : Nat) t v, Tryz.f3.params[j]? = some t → args[j]? = some v → Value.okWide Tryz.prog W .any base t v := hval0
  have hW' := hW
  obtain ⟨p, q, hA0, hV, rfl, hfz, hnd⟩ := hW
  have hA : DataW.TrodAll enc Tryz.prog W 0 (fun _ => true) true Tryz.f3.params.toList args.toList ds p := hA0
  rw [Tryz.params3] at hA hval
  have hA1 := hA
  obtain ⟨v0, vs0, d0, ds0, p0, q0, hargs, rfl, rfl, h0, r0⟩ := trodAll_cons hA
  obtain ⟨v1, vs1, d1, ds1, p1, q1, rfl, rfl, rfl, h1, r1⟩ := trodAll_cons r0
  obtain ⟨v2, vs2, d2, ds2, p2, q2, rfl, rfl, rfl, h2, r2⟩ := trodAll_cons r1
  obtain ⟨v3, vs3, d3, ds3, p3, q3, rfl, rfl, rfl, h3, r3⟩ := trodAll_cons r2
  obtain ⟨rfl, rfl, rfl⟩ := trodAll_nil r3
  obtain rfl : args = #[v0, v1, v2, v3] := by cases args; simp_all
  obtain ⟨rfl, rfl⟩ := trodVars_none hV
  obtain ⟨cs0, rfl, _⟩ := okWide_struct Tryz.underlying25 (hval 0 25 v0 rfl rfl)
  obtain ⟨fu0, hf0⟩ := h0
  obtain ⟨x0, w0_0, w0_1, e0, f0_0, f0_1, o0⟩ := opn25 hf0
  obtain rfl : cs0 = List.toArray [w0_0, w0_1] := Array.ext' e0
  obtain ⟨a1, l1, c1, rfl⟩ := okWide_slice Tryz.underlying26 (hval 1 26 v1 rfl rfl)
  obtain ⟨fu1, hf1⟩ := h1
  obtain ⟨x1, w1, e1, f1, o1⟩ := opn26 hf1
  obtain rfl : _ = w1 := (List.cons.inj e1).1
  obtain ⟨cs2, rfl, _⟩ := okWide_struct Tryz.underlying30 (hval 2 30 v2 rfl rfl)
  obtain ⟨fu2, hf2⟩ := h2
  obtain ⟨x2, w2_0, w2_1, e2, f2_0, f2_1, o2⟩ := opn30 hf2
  obtain rfl : cs2 = List.toArray [.int .i64 x2.fKind, .int .i64 x2.fMember, w2_0, w2_1] := Array.ext' e2
  obtain ⟨x3, rfl, rfl, rfl, o3⟩ := open_int Tryz.underlying2 (hval 3 2 v3 rfl rfl) h3
  obtain ⟨k, hk⟩ := Pure.FnExactCheckTx x0 x1 x2 x3 o0 o1 o2 o3
  refine (laws_FnExactCheckTx.calls (w := W) htab f0_0 f0_1 f1 f2_0 f2_1 hk).mono fun e W' ⟨v, he, hv, hm⟩ => ?_
  subst he; subst hv
  exact ⟨_, rfl, _, _, _, [], _, [], hW', trodAll_mk1 (shut_bool Tryz.underlying4 _), trodAll_below laidOut hm.below (by kernel_rfl) hA1 (fun x hx => by simpa using hW'.lt x (by simpa using hx)), rfl, hm.below.frame _, fun h => by cases h⟩
theorem over : Rows.fnExactCheckTxRow.holds Tryz.pinned (OpenSpec.ofChange Rows.fnExactCheckTxSpec) :=
  OpenClaim.holds_of_wide 3 Tryz.f3 rfl rfl rfl rfl rfl rfl rfl ⟨rfl, rfl, rfl, rfl, rfl⟩ rfl rfl rfl rfl rfl (by kernel_rfl) Tryz.func3 (by kernel_rfl)
    (of_decide_eq_true (by kernel_rfl)) (by unfold Func.isWrapper; first | (rw [if_pos (by decide +kernel)]; kernel_rfl) | (rw [if_neg (by decide +kernel)]; exact ⟨rfl, rfl⟩))
    (fun os started H enc _ => lifted os started H enc)
end Go.Proofs.YtpfaihnmonfkhaaGreatDoor.fnExactCheckTx
namespace Go.Proofs.YtpfaihnmonfkhaaGreatDoor
open Go
/-- The card, for the claim. -/
theorem fnExactCheckTx_holds : Rows.FnExactCheckTxCardSaid :=
  Claim7.holds_tied_plain_at .later [] [.data, .data, .data] true (true, "bd466a8740b02640382ebd3e993e5115ba09d0784f127ba3b5fd9199a3b19c64") false
    fnExactCheckTx.over (fun _ h => by cases h) (by kernel_rfl) (fun _ h => by cases h) fnExactCheckTx_row_tie rfl ⟨rfl, rfl⟩ (by kernel_rfl) rfl
    (fun f fn hf hfn => by
      obtain rfl : f = 3 := Option.some.inj ((show Tryz.prog.funcNamed "loop.example/g00304/laws.FnExactCheckTx" = some 3 by kernel_rfl).symm.trans hf) |>.symm
      obtain rfl : fn = Tryz.f3 := (Option.some.inj (Tryz.func3.symm.trans hfn)).symm
      exact ⟨by kernel_rfl, fun j t ht => by
        rw [Tryz.params3] at ht
        rcases j with _ | j
        · obtain rfl : t = 25 := by simpa using ht.symm
          kernel_rfl
        rcases j with _ | j
        · obtain rfl : t = 26 := by simpa using ht.symm
          kernel_rfl
        rcases j with _ | j
        · obtain rfl : t = 30 := by simpa using ht.symm
          kernel_rfl
        rcases j with _ | j
        · obtain rfl : t = 2 := by simpa using ht.symm
          exact (show Tryz.prog.wantsStandIn 2 = false by kernel_rfl)
        · simp at ht⟩)
    (by kernel_rfl)
end Go.Proofs.YtpfaihnmonfkhaaGreatDoor
