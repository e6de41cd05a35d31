/- MoneyDivides: of any three numbers the product of two by the third one, rounded, or that it is no money: as the reference tells; for every input. -/
import Derived.Test.YteeajbnpbagjlaaPx7
import Derived.Test.YteeajbnpbagjlaaMoneyLaws
namespace Go.Proofs.Yteeajbnpbagjlaa.Pure
set_option linter.unusedVariables false
open Go.RowKit Go.Proofs.Yteeajbnpbagjlaa.P Go.Proofs.YteeajbnpbagjlaaW.PrintWords Go.Proofs.YteeajbnpbagjlaaW.PrintLast Go.Proofs.YteeajbnpbagjlaaW.PrintMore Go.Proofs.Yteeajbnpbagjlaa.PlainM
theorem MoneyDivides : annuitylaw01_MoneyDivides.Pure := by
  intro a b c how ha hb hc _
  obtain ⟨k, hk⟩ : ∃ k : Nat, 100 ≤ k := ⟨_, Nat.le_refl _⟩
  refine ⟨k, ?_⟩
  unfold annuitylaw01_MoneyDivides.f
  rw [money_MulDiv_is _ _ _ _ k (wf64 ha).2 (wf64 hb).2 (wf64 hc).2 (by omega), ref_MulDiv_is _ _ _ _ k (wf64 ha).2 (wf64 hb).2 (wf64 hc).2 (by omega)]
  simp only [obind, if_true]
  rw [wakes01 k (by omega)]
  rfl
end Go.Proofs.Yteeajbnpbagjlaa.Pure
