/- LoanTells: whether any loan is good, what it owes, what days make of it, and what capitalizing does: as the reference tells; for every input. -/
import Derived.Test.YtmbenmiakjhgeaaPx35
import Derived.Test.YtmbenmiakjhgeaaLoanAccRef
import Derived.Test.YtmbenmiakjhgeaaLoanKeep
namespace Go.Proofs.Ytmbenmiakjhgeaa.Pure
set_option linter.unusedVariables false
open Go.RowKit Go.Proofs.Ytmbenmiakjhgeaa.P Go.Proofs.YtmbenmiakjhgeaaW.PrintWords Go.Proofs.YtmbenmiakjhgeaaW.PrintLast Go.Proofs.YtmbenmiakjhgeaaW.PrintMore Go.Proofs.Ytmbenmiakjhgeaa.PlainM
theorem LoanTells : annuitylaw14_LoanTells.Pure := by
  intro a b c d e f g h i j l m n days _ _ _ _ _ _ _ _ _ _ _ _ _
  obtain ⟨k, hk⟩ : ∃ k : Nat, 200 ≤ k := ⟨_, Nat.le_refl _⟩
  refine ⟨k, ?_⟩
  unfold annuitylaw14_LoanTells.f
  rw [owes_is _ _ _ _ _ _ _ _ _ _ _ _ _ k (by omega), ref_owes_is, accrue_is _ _ _ _ _ _ _ _ _ _ _ _ _ _ k (by omega), ref_accrue_is _ _ _ _ _ _ _ _ _ _ _ _ _ _ k (by omega), cap_is _ _ _ _ _ _ _ _ _ _ _ _ _ k (by omega), ref_cap_is, good_is _ _ _ _ _ _ _ _ _ _ _ _ _ k (by omega), ref_good_is]
  simp only [obind, keep_self, if_true, beq_self_eq_true]
  rw [wakes14 k (by omega)]
  rfl
end Go.Proofs.Ytmbenmiakjhgeaa.Pure
