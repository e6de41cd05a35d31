/- LoanTurns: any loan in any other status, with a fee, with a draw more, or that it can't be: as the reference tells; for every input. -/
import Derived.Test.YtmbenmiakjhgeaaPx31
import Derived.Test.YtmbenmiakjhgeaaLoanMore
import Derived.Test.YtmbenmiakjhgeaaLoanKeep
namespace Go.Proofs.Ytmbenmiakjhgeaa.Pure
set_option linter.unusedVariables false
open Go.RowKit Go.Proofs.Ytmbenmiakjhgeaa.P Go.Proofs.YtmbenmiakjhgeaaW.PrintWords Go.Proofs.YtmbenmiakjhgeaaW.PrintLast Go.Proofs.YtmbenmiakjhgeaaW.PrintMore Go.Proofs.Ytmbenmiakjhgeaa.PlainM
theorem LoanTurns : annuitylaw14_LoanTurns.Pure := by
  intro a b c d e f g h i j l m n s day am _ _ _ _ _ _ _ _ _ _ _ _ _ _ _
  obtain ⟨k, hk⟩ : ∃ k : Nat, 200 ≤ k := ⟨_, Nat.le_refl _⟩
  refine ⟨k, ?_⟩
  unfold annuitylaw14_LoanTurns.f
  rw [turn_is _ _ _ _ _ _ _ _ _ _ _ _ _ _ _ k (by omega), ref_turn_is _ _ _ _ _ _ _ _ _ _ _ _ _ _ _ k (by omega), fee_is _ _ _ _ _ _ _ _ _ _ _ _ _ _ k (by omega), ref_fee_is _ _ _ _ _ _ _ _ _ _ _ _ _ _ k (by omega), draw_is _ _ _ _ _ _ _ _ _ _ _ _ _ _ k (by omega), ref_draw_is _ _ _ _ _ _ _ _ _ _ _ _ _ _ k (by omega)]
  simp only [obind, keep_self, if_true]
  rw [wakes14 k (by omega)]
  rfl
end Go.Proofs.Ytmbenmiakjhgeaa.Pure
