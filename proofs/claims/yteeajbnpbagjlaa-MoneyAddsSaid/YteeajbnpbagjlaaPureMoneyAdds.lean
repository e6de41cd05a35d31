/- MoneyAdds: the sum and the difference of any two numbers, and of any many, or that they are no money: as the reference tells; for every input. -/
import Derived.Test.YteeajbnpbagjlaaPx23
import Derived.Test.YteeajbnpbagjlaaMoneySums
namespace Go.Proofs.Yteeajbnpbagjlaa.Pure
set_option linter.unusedVariables false
open Go.RowKit Go.Proofs.Yteeajbnpbagjlaa.P Go.Proofs.YteeajbnpbagjlaaW.PrintWords Go.Proofs.YteeajbnpbagjlaaW.PrintLast Go.Proofs.YteeajbnpbagjlaaW.PrintMore Go.Proofs.Yteeajbnpbagjlaa.PlainM
theorem MoneyAdds : annuitylaw01_MoneyAdds.Pure := by
  intro a b l ha hb h1 h2 h3
  obtain ⟨k, hk⟩ : ∃ k : Nat, 3000 ≤ k := ⟨_, Nat.le_refl _⟩
  refine ⟨k, ?_⟩
  unfold annuitylaw01_MoneyAdds.f
  rw [wakes01 k (by omega)]
  by_cases c : (l.length : Int) > 2000
  · rw [if_pos c]; rfl
  · rw [if_neg c, money_Add_is, ref_mAdd_is, money_Sub_is, ref_mSub_is]
    simp only [obind, List.nil_append, if_true]
    rw [if_pos (by simp only [List.length_nil]; omega), ref_Sum_is l k (by omega) (by omega)]
    unfold money_Sum.f
    rw [if_pos (by omega)]
    simp only [obind, money_Good_is, ref_mGood_is, beq_self_eq_true, if_true]
    rw [keep_Longs_same l k (by omega) (by omega)]
    simp
end Go.Proofs.Yteeajbnpbagjlaa.Pure
