/- Plain laws that several statements share: the copies, the sizes, the comparisons. Conditions: as each theorem states them. -/
import Derived.Test.YtkofpnbacgccnaaZkPure
import Derived.Test.YtkofpnbacgccnaaZkOpn
namespace Go.Proofs.Ytkofpnbacgccnaa.Zk
open Go Go.RowKit Go.IntWalk
set_option linter.unusedVariables false
set_option linter.unusedSimpArgs false
def szL (n : Nat) (l : Int) : Int := bif decide (wrap64 (l - n) < 0) then -1 else wrap64 (l - n)
theorem szL_ok {n : Nat} {l : Int} (h : decide (szL n l < 0) = false) (h0 : 0 ≤ l) (h1 : l ≤ 1048576) (hn : n ≤ maxLen) : (n : Int) ≤ l ∧ szL n l = l - n := by
  unfold szL at *
  have hn' : n ≤ 9223372036854775807 := by simpa [maxLen] using hn
  have e : wrap64 (l - n) = l - n := by unfold wrap64; omega
  rw [e] at h ⊢
  by_cases hc : l - (n : Int) < 0
  · rw [decide_eq_true hc] at h; cases h
  · rw [decide_eq_false hc]; exact ⟨by omega, rfl⟩
theorem szL_le {n : Nat} {l : Int} (h0 : 0 ≤ l) (h1 : l ≤ 1048576) (hn : n ≤ maxLen) : szL n l ≤ l := by
  unfold szL
  have hn' : n ≤ 9223372036854775807 := by simpa [maxLen] using hn
  have e : wrap64 (l - n) = l - n := by unfold wrap64; omega
  rw [e]
  by_cases hc : l - (n : Int) < 0
  · rw [decide_eq_true hc]; show (-1 : Int) ≤ l; omega
  · rw [decide_eq_false hc]; show l - (n : Int) ≤ l; omega
theorem nn {l : Int} (h : decide (l < 0) = false) : 0 ≤ l := by simpa using h
end Go.Proofs.Ytkofpnbacgccnaa.Zk
