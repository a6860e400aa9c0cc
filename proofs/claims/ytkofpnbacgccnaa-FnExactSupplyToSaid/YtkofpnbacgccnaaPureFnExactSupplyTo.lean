/- The program's SupplyTo gives what the reference's gives, for every height: no condition. -/
import Derived.Test.YtkofpnbacgccnaaPFnExactSupplyTox1
namespace Go.Proofs.Ytkofpnbacgccnaa.Pure
open Go.RowKit Go.Proofs.Ytkofpnbacgccnaa.PFnExactSupplyTo Go.Proofs.YtkofpnbacgccnaaW.PrintWords Go.Proofs.YtkofpnbacgccnaaW.PrintLast

theorem supply_exp (a : Int) (h0 : 1 ≤ a) (h1 : a ≤ 40) :
    wrap64 (Int.tdiv (wrap64 (a - 1)) 8) = (a - 1) / 8 ∧ IntKind.u64.wrap ((a - 1) / 8) = (a - 1) / 8 ∧ 0 ≤ (a - 1) / 8 := by
  have e : wrap64 (a - 1) = a - 1 := by unfold wrap64; omega
  have t : Int.tdiv (a - 1) 8 = (a - 1) / 8 := Int.tdiv_eq_ediv_of_nonneg (by omega)
  have w : wrap64 ((a - 1) / 8) = (a - 1) / 8 := by unfold wrap64; omega
  refine ⟨by rw [e, t, w], ?_, by omega⟩
  unfold IntKind.wrap
  simp only [IntKind.bits, IntKind.signed, Bool.false_and, Bool.false_eq_true, if_false]
  omega

theorem rewards (a : Int) (h0 : 1 ≤ a) (h1 : a ≤ 40) : ∃ v, spec_l7Reward.f a = some v ∧ impl_rewardOf.f a = some v := by
  obtain ⟨e1, e2, e3⟩ := supply_exp a h0 h1
  exact ⟨shr .i64 1000 ((a - 1) / 8), by simp [spec_l7Reward.f, e1, e2, e3], by simp [impl_rewardOf.f, e1, e3]⟩

theorem sums (a : Int) (ha : a ≤ 40) (d : Nat) : ∀ (k : Nat) (s i : Int), 1 ≤ i → a + 1 - i ≤ d → d < k →
    ∃ r, spec_SupplyTo.l0 k a s i = some (0, r) ∧ impl_SupplyTo.l0 k a s i = some (0, r) := by
  induction d with
  | zero =>
    intro k s i h0 hd hk
    obtain ⟨k, rfl⟩ : ∃ m, k = m + 1 := ⟨k - 1, by omega⟩
    exact ⟨s, by simp only [spec_SupplyTo.l0]; rw [if_neg (by omega)], by simp only [impl_SupplyTo.l0]; rw [if_neg (by omega)]⟩
  | succ d ih =>
    intro k s i h0 hd hk
    obtain ⟨k, rfl⟩ : ∃ m, k = m + 1 := ⟨k - 1, by omega⟩
    by_cases h : i ≤ a
    · obtain ⟨v, hv1, hv2⟩ := rewards i h0 (by omega)
      have e : wrap64 (i + 1) = i + 1 := by unfold wrap64; omega
      obtain ⟨r, hr1, hr2⟩ := ih k (wrap64 (s + v)) (i + 1) (by omega) (by omega) (by omega)
      exact ⟨r, by simp only [spec_SupplyTo.l0]; rw [if_pos h, hv1]; simp only [Option.bind_some]; rw [e]; exact hr1,
        by simp only [impl_SupplyTo.l0]; rw [if_pos h, hv2]; simp only [Option.bind_some]; rw [e]; exact hr2⟩
    · exact ⟨s, by simp only [spec_SupplyTo.l0]; rw [if_neg h], by simp only [impl_SupplyTo.l0]; rw [if_neg h]⟩

theorem FnExactSupplyTo : laws_FnExactSupplyTo.Pure := by
  intro a _
  refine ⟨50, ?_⟩
  unfold laws_FnExactSupplyTo.f spec_SupplyTo.f impl_SupplyTo.f spec_l1In.f impl_within.f
  by_cases h0 : a ≥ 0
  · by_cases h1 : a ≤ 40
    · obtain ⟨r, e1, e2⟩ := sums a h1 40 50 0 1 (by omega) (by omega) (by omega)
      simp [h0, h1, e1, e2, laws_eqIntResult.f]
    · simp [h0, h1, laws_eqIntResult.f]
  · simp [h0, laws_eqIntResult.f]

end Go.Proofs.Ytkofpnbacgccnaa.Pure
