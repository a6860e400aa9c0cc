/- The program's RewardOf gives what the reference's gives, for every height: no condition. -/
import Derived.Test.YtkofpnbacgccnaaPFnExactRewardOfx1
namespace Go.Proofs.Ytkofpnbacgccnaa.Pure
open Go.RowKit Go.Proofs.Ytkofpnbacgccnaa.PFnExactRewardOf Go.Proofs.YtkofpnbacgccnaaW.PrintWords Go.Proofs.YtkofpnbacgccnaaW.PrintLast

theorem reward_exp (a : Int) (h0 : 1 ≤ a) (h1 : a ≤ 40) :
    wrap64 (Int.tdiv (wrap64 (a - 1)) 8) = (a - 1) / 8 ∧ IntKind.u64.wrap ((a - 1) / 8) = (a - 1) / 8 ∧ 0 ≤ (a - 1) / 8 := by
  have e : wrap64 (a - 1) = a - 1 := by unfold wrap64; omega
  have t : Int.tdiv (a - 1) 8 = (a - 1) / 8 := Int.tdiv_eq_ediv_of_nonneg (by omega)
  have w : wrap64 ((a - 1) / 8) = (a - 1) / 8 := by unfold wrap64; omega
  refine ⟨by rw [e, t, w], ?_, by omega⟩
  unfold IntKind.wrap
  simp only [IntKind.bits, IntKind.signed, Bool.false_and, Bool.false_eq_true, if_false]
  omega

theorem FnExactRewardOf : laws_FnExactRewardOf.Pure := by
  intro a _
  unfold laws_FnExactRewardOf.f spec_RewardOf.f impl_RewardOf.f spec_l1In.f impl_within.f
  by_cases h0 : a ≥ 1
  · by_cases h1 : a ≤ 40
    · obtain ⟨e1, e2, e3⟩ := reward_exp a h0 h1
      simp [h0, h1, spec_l7Reward.f, impl_rewardOf.f, e1, e2, e3, laws_eqIntResult.f]
    · simp [h0, h1, laws_eqIntResult.f]
  · simp [h0, laws_eqIntResult.f]

end Go.Proofs.Ytkofpnbacgccnaa.Pure
