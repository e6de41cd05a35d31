/- MoneyWide: products of 128 bits, and their quotients, and rests: as the reference tells; for every input. -/
import Derived.Test.YteeajbnpbagjlaaPx8
import Derived.Test.YteeajbnpbagjlaaMoneyLaws
namespace Go.Proofs.Yteeajbnpbagjlaa.Pure
set_option linter.unusedVariables false
open Go.RowKit Go.Proofs.Yteeajbnpbagjlaa.P Go.Proofs.YteeajbnpbagjlaaW.PrintWords Go.Proofs.YteeajbnpbagjlaaW.PrintLast Go.Proofs.YteeajbnpbagjlaaW.PrintMore Go.Proofs.Yteeajbnpbagjlaa.PlainM
theorem MoneyWide : annuitylaw01_MoneyWide.Pure := by
  intro a b c ha hb hc
  obtain ⟨k, hk⟩ : ∃ k : Nat, 100 ≤ k := ⟨_, Nat.le_refl _⟩
  refine ⟨k, ?_⟩
  have ha := wfu64 ha; have hb := wfu64 hb; have hc := wfu64 hc
  have hp := Int.mul_nonneg ha.1 hb.1
  unfold annuitylaw01_MoneyWide.f
  rw [money_Mul_is a b ha.1 (by omega) hb.1 (by omega), ref_Mul_is a b ha.1 (by omega) hb.1 (by omega)]
  simp only [obind]
  rw [money_Div_is _ _ c k (by omega) (by omega) (by omega) hc.1 (by omega) (by omega), ref_Div_is _ _ c k (by omega) (by omega) (by omega) hc.1 (by omega) (by omega)]
  simp only [obind]
  rw [money_Div_is a b c k ha.1 hb.1 (by omega) hc.1 (by omega) (by omega), ref_Div_is a b c k ha.1 hb.1 (by omega) hc.1 (by omega) (by omega)]
  simp only [obind, if_true, beq_self_eq_true]
  rw [wakes01 k (by omega)]
  rfl
end Go.Proofs.Yteeajbnpbagjlaa.Pure
