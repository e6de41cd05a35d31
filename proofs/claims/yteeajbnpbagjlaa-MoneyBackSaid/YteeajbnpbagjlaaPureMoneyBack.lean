/- MoneyBack: what was added is taken away again; a product divided by one of its numbers is the other one; for every input. -/
import Derived.Test.YteeajbnpbagjlaaPx24
import Derived.Test.YteeajbnpbagjlaaMoneySums
namespace Go.Proofs.Yteeajbnpbagjlaa.Pure
set_option linter.unusedVariables false
open Go.RowKit Go.Proofs.Yteeajbnpbagjlaa.P Go.Proofs.YteeajbnpbagjlaaW.PrintWords Go.Proofs.YteeajbnpbagjlaaW.PrintLast Go.Proofs.YteeajbnpbagjlaaW.PrintMore Go.Proofs.Yteeajbnpbagjlaa.PlainM
theorem MoneyBack : annuitylaw01_MoneyBack.Pure := by
  intro a b ha hb
  have ha := wf64 ha; have hb := wf64 hb
  obtain ⟨k, hk⟩ : ∃ k : Nat, 100 ≤ k := ⟨_, Nat.le_refl _⟩
  refine ⟨k + 2, ?_⟩
  have hj1 : annuitylaw01_MoneyBack.j1 (k + 1) a b true = some true := by
    simp only [annuitylaw01_MoneyBack.j1, if_true]; rw [wakes01 k (by omega)]; rfl
  have hj : annuitylaw01_MoneyBack.j0 (k + 2) a b = some true := by
    simp only [annuitylaw01_MoneyBack.j0, ref_mGood_is, ← isMoney_is, obind]
    cases h1 : isMoney a
    · rw [if_neg (by simp)]; exact hj1
    · have b1 := isMoney_bd h1
      rw [if_pos rfl]
      by_cases c1 : a < 0
      · rw [if_pos c1]; exact hj1
      rw [if_neg c1]
      by_cases c2 : b < 1
      · rw [decide_eq_true c2]; exact hj1
      rw [decide_eq_false c2]
      simp only [annuitylaw01_MoneyBack.j1]
      rw [if_neg (by simp), money_MulDiv_is a b b 0 k (by omega) (by omega) (by omega) (by omega)]
      have hq : a * b / b = a := Int.mul_ediv_cancel _ (by omega)
      have hm : mdS a b b 0 = (a, 0) := by
        unfold mdS roundS
        rw [if_neg (by omega), hq, if_neg (by omega), more0, if_neg (by simp)]
      rw [hm]
      simp only [obind, if_true]
      rw [wakes01 k (by omega)]; rfl
  unfold annuitylaw01_MoneyBack.f
  rw [money_Add_is]
  simp only [obind, addS]
  by_cases h : (isMoney a && (isMoney b && isMoney (a + b))) = true
  · rw [if_pos h, if_pos rfl, money_Sub_is]
    simp only [obind, addS]
    simp only [Bool.and_eq_true] at h
    rw [isMoney_neg, h.2.2, h.2.1, show a + b + -b = a by omega, h.1]
    simp only [Bool.and_self, if_true]
    exact hj
  · rw [if_neg h, if_neg (by omega)]; exact hj
end Go.Proofs.Yteeajbnpbagjlaa.Pure
