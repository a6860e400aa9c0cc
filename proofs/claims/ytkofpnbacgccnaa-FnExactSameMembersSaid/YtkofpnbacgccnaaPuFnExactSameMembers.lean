/- The program's SameMembers gives what the reference's gives, for all rows of members: no condition. -/
import Derived.Test.YtkofpnbacgccnaaPuBase
import Derived.Test.YtkofpnbacgccnaaZkF1
namespace Go.Proofs.Ytkofpnbacgccnaa.Zk
open Go Go.RowKit Go.IntWalk
set_option linter.unusedVariables false
set_option linter.unusedSimpArgs false
theorem szMemberS_ev (xs : List Member) (l : Int) : Evt (fun k => laws_szMemberS.f k xs l) (szL xs.length l) := Evt.if_ (Evt.self _) (Evt.self _)
theorem toRef_ev (x : Ref) : Evt (fun k => laws_toRef.f k x) x := Evt.self x
theorem toMember_ev (x : Member) : Evt (fun k => laws_toMember.f k x) x := Evt.bind (toRef_ev _) (Evt.self _)
theorem toMemberS_ev (xs : List Member) (h : xs.length ≤ 1048576) : Evt (fun k => laws_toMemberS.f k xs) xs := by
  refine Evt.chk (by simp) (Evt.chk (by simp [leB]; omega) (Evt.bind (a := xs) ?_ (Evt.self _)))
  have := Evt.copy (L := fun k acc i => laws_toMemberS.l0 xs k acc i) xs id (by omega) (fun acc i hl hi r hr => ?_) (fun acc => ?_) (List.replicate ((xs.length : Int)).toNat (⟨0, (⟨0, 0⟩ : Ref)⟩ : Member)) (by simp)
  · simpa using this
  · refine Evt.s ?_
    simp only [laws_toMemberS.l0_s]
    refine Evt.t (int_lt hi) (Evt.chk (idx_ok hi) (Evt.bind (toMember_ev _) (Evt.chk (idx_ok (hl ▸ hi)) ?_)))
    simpa using hr
  · refine Evt.s ?_
    simp only [laws_toMemberS.l0_s]
    exact Evt.f int_nlt (Evt.self _)
def eqRefB (a b : Ref) : Bool := (a.fTx == b.fTx) && (a.fAt == b.fAt)
def eqMemberB (a b : Member) : Bool := (a.fKey == b.fKey) && ((a.fRef.fTx == b.fRef.fTx) && (a.fRef.fAt == b.fRef.fAt))
theorem l6Same_ev (xs ys : List Member) (h : xs.length ≤ 1048576) : Evt (fun k => spec_l6Same.f k xs ys) (eqRows eqMemberB xs ys) := by
  refine Evt.eqr (L := fun k i => spec_l6Same.l0 xs ys k i) eqMemberB xs ys (by omega) (fun i h1 h2 o ht hf => ?_) ?_
  · refine Evt.s ?_
    simp only [spec_l6Same.l0_s]
    refine Evt.t (int_lt h1) (Evt.chk (idx_ok h1) (Evt.chk (idx_ok h2) (Evt.cases (fun hc => Evt.ret (hf (notT hc)).symm) (fun hc => ht (notF hc)))))
  · refine Evt.s ?_
    simp only [spec_l6Same.l0_s]
    exact Evt.f int_nlt (Evt.self _)
theorem equalMember_ev (xs ys : List Member) (h : xs.length ≤ 1048576) : Evt (fun k => slices_Equal_impl_Member.f k xs ys) (eqRows eqMemberB xs ys) := by
  refine Evt.eqr (L := fun k i => slices_Equal_impl_Member.l0 xs ys k i) eqMemberB xs ys (by omega) (fun i h1 h2 o ht hf => ?_) ?_
  · refine Evt.s ?_
    simp only [slices_Equal_impl_Member.l0_s]
    refine Evt.t (int_lt h1) (Evt.chk (idx_ok h1) (Evt.chk (idx_ok h2) (Evt.cases (fun hc => Evt.ret (hf (notT hc)).symm) (fun hc => ht (notF hc)))))
  · refine Evt.s ?_
    simp only [slices_Equal_impl_Member.l0_s]
    exact Evt.f int_nlt (Evt.self _)
theorem eqRef_ev (x : Ref) : Evt (fun k => laws_eqRef.f k x x) true := Evt.f (by simp) (Evt.f (by simp) (Evt.self _))
theorem eqMember_ev (x : Member) : Evt (fun k => laws_eqMember.f k x x) true := Evt.f (by simp) (Evt.bind (eqRef_ev _) (Evt.f rfl (Evt.self _)))
theorem eqMemberS_ev (xs : List Member) (h : xs.length ≤ 1048576) : Evt (fun k => laws_eqMemberS.f k xs xs) true := by
  refine (Evt.eqr (L := fun k i => laws_eqMemberS.l0 xs xs k i) (fun _ _ => true) xs xs (by omega) (fun i h1 h2 o ht hf => ?_) ?_).to (eqRows_refl (fun _ => rfl) xs)
  · refine Evt.s ?_
    simp only [laws_eqMemberS.l0_s]
    exact Evt.t (int_lt h1) (Evt.chk (idx_ok h1) (Evt.chk (idx_ok h2) (Evt.bind (eqMember_ev _) (Evt.f rfl (ht rfl)))))
  · refine Evt.s ?_
    simp only [laws_eqMemberS.l0_s]
    exact Evt.f int_nlt (Evt.self _)
end Go.Proofs.Ytkofpnbacgccnaa.Zk
namespace Go.Proofs.Ytkofpnbacgccnaa.Pure
open Go Go.Proofs.Ytkofpnbacgccnaa.Zk
theorem FnExactSameMembers (x0 x1 : List Member) (o0 : Lok okMember x0) (o1 : Lok okMember x1) : ∃ k, laws_FnExactSameMembers.f k x0 x1 = some true := by
  refine Evt.get ?_
  refine Evt.bind (szMemberS_ev _ _) (Evt.cases (fun _ => Evt.self _) fun h0 => ?_)
  obtain ⟨a0, b0⟩ := szL_ok h0 (by omega) (by omega) o0.1
  refine Evt.bind (szMemberS_ev _ _) (Evt.cases (fun _ => Evt.self _) fun h1 => ?_)
  obtain ⟨a1, b1⟩ := szL_ok h1 (by omega) (by omega) o1.1
  have l0 : x0.length ≤ 1048576 := by omega
  have l1 : x1.length ≤ 1048576 := by omega
  refine Evt.bind (toMemberS_ev _ l0) (Evt.bind (toMemberS_ev _ l1) (Evt.bind (Evt.bind (l6Same_ev _ _ l0) (Evt.self _)) (Evt.bind (toMemberS_ev _ l0) (Evt.bind (toMemberS_ev _ l1) (Evt.bind (Evt.bind (equalMember_ev _ _ l0) (Evt.self _)) (Evt.f (by simp) ?_))))))
  exact Evt.bind (toMemberS_ev _ l0) (Evt.bind (eqMemberS_ev _ l0) (Evt.f rfl (Evt.bind (toMemberS_ev _ l1) (Evt.bind (eqMemberS_ev _ l1) (Evt.f rfl (Evt.self _))))))
end Go.Proofs.Ytkofpnbacgccnaa.Pure
