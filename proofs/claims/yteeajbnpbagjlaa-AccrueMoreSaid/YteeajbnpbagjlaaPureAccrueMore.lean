/- AccrueMore: who owes more, or at a higher rate, gets no less interest a day; nothing at no rate, and on nothing; cents that are taken and what is left are all there was; for every input. -/
import Derived.Test.YteeajbnpbagjlaaPx19
import Derived.Test.YteeajbnpbagjlaaAccrueEv
namespace Go.Proofs.Yteeajbnpbagjlaa.Pure
set_option linter.unusedVariables false
open Go.RowKit Go.Proofs.Yteeajbnpbagjlaa.P Go.Proofs.YteeajbnpbagjlaaW.PrintWords Go.Proofs.YteeajbnpbagjlaaW.PrintLast Go.Proofs.YteeajbnpbagjlaaW.PrintMore Go.Proofs.Yteeajbnpbagjlaa.PlainM
theorem AccrueMore : annuitylaw13_AccrueMore.Pure := by
  intro a b c d m ha hb hc hd hm
  have ha := wfu32 ha; have hb := wfu32 hb; have hc := wfu16 hc; have hd := wfu16 hd; have hm := wfu64 hm
  obtain ⟨k, hk⟩ : ∃ k : Nat, 200 ≤ k := ⟨_, Nat.le_refl _⟩
  refine ⟨k, ?_⟩
  unfold annuitylaw13_AccrueMore.f
  have e1 : a ≤ mx a b ∧ mx a b ≤ 4294967295 := by unfold mx; split <;> omega
  have e2 : c ≤ mx c d ∧ mx c d ≤ 65535 := by unfold mx; split <;> omega
  rw [tmod_nn hm.1, w64 (e := a) (by omega) (by omega), w64 (e := c) (by omega) (by omega), w64 (e := mx a b) (by omega) (by omega), w64 (e := mx c d) (by omega) (by omega), w64 (e := m % 1000000000000000000) (by omega) (by omega)]
  generalize mx a b = a' at *
  generalize mx c d = c' at *
  obtain ⟨x, hx, x0, x1⟩ : ∃ x, m % 1000000000000000000 = x ∧ 0 ≤ x ∧ x < 1000000000000000000 := ⟨_, rfl, by omega, by omega⟩
  rw [hx, accrue_Daily_is _ _ k (by omega), accrue_Daily_is _ _ k (by omega), accrue_Daily_is _ _ k (by omega), accrue_Whole_is x (by omega), if_neg (by omega)]
  simp only [obind]
  rw [accrue_Take_is]
  unfold dailyS takeS
  rw [if_neg (show ¬ (a < 0 ∨ a > 10000000000000 ∨ c < 0 ∨ c > 1000000) by omega), if_neg (show ¬ (a' < 0 ∨ a' > 10000000000000 ∨ c' < 0 ∨ c' > 1000000) by omega), if_neg (show ¬ (a < 0 ∨ a > 10000000000000 ∨ (0 : Int) < 0 ∨ (0 : Int) > 1000000) by omega), if_neg (show ¬ (x < 0 ∨ x > 1000000000000000000 ∨ x / 1000000 < 0 ∨ x / 1000000 > x / 1000000) by omega)]
  simp only [obind, if_true]
  have hmul : a * c ≤ a' * c' := Int.mul_le_mul e1.1 e2.1 hc.1 (by omega)
  rw [if_pos (Int.ediv_le_ediv (by omega) hmul), if_pos (by simp), if_pos (by omega), if_pos (by omega), w64 (e := x / 1000000 * 1000000) (by omega) (by omega), w64 (by omega) (by omega), if_pos (by omega), wakes13 k (by omega)]
  rfl
end Go.Proofs.Yteeajbnpbagjlaa.Pure
