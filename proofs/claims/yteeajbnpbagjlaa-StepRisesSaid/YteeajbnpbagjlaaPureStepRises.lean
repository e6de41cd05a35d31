/- StepRises: what is asked never falls from month to month; it is more than half the level, and at most half as much again, and a cent; for every input. -/
import Derived.Test.YteeajbnpbagjlaaPx18
import Derived.Test.YteeajbnpbagjlaaStepEv
namespace Go.Proofs.Yteeajbnpbagjlaa.Pure
set_option linter.unusedVariables false
open Go.RowKit Go.Proofs.Yteeajbnpbagjlaa.P Go.Proofs.YteeajbnpbagjlaaW.PrintWords Go.Proofs.YteeajbnpbagjlaaW.PrintLast Go.Proofs.YteeajbnpbagjlaaW.PrintMore Go.Proofs.Yteeajbnpbagjlaa.PlainM
theorem StepRises : annuitylaw16_StepRises.Pure := by
  intro a b c ha hb hc
  have ha := wfu32 ha; have hb := wfu16 hb; have hc := wfu8 hc
  obtain ⟨k, hk⟩ : ∃ k : Nat, 200 ≤ k := ⟨_, Nat.le_refl _⟩
  refine ⟨k, ?_⟩
  unfold annuitylaw16_StepRises.f
  rw [w64 (e := a) (by omega) (by omega), w64 (e := b) (by omega) (by omega), w64 (e := c) (by omega) (by omega), w64 (e := b + c) (by omega) (by omega)]
  rw [step_Of_is _ _ k (by omega) (by omega), step_Of_is _ _ k (by omega) (by omega)]
  simp only [obind]
  unfold stepS
  rw [if_neg (show ¬ (a < 0 ∨ a > 10000000000000 ∨ b < 0) by omega), if_neg (show ¬ (a < 0 ∨ a > 10000000000000 ∨ b + c < 0) by omega)]
  have s1 : 60 ≤ shareS (b / 24) ∧ shareS (b / 24) ≤ shareS ((b + c) / 24) ∧ shareS ((b + c) / 24) ≤ 150 := by unfold shareS; (repeat' split) <;> omega
  generalize shareS (b / 24) = x at *
  generalize shareS ((b + c) / 24) = y at *
  have h1 : a * x ≤ a * y := Int.mul_le_mul_of_nonneg_left s1.2.1 ha.1
  have h2 : a * y ≤ a * 150 := Int.mul_le_mul_of_nonneg_left s1.2.2 ha.1
  have h3 : a * 60 ≤ a * x := Int.mul_le_mul_of_nonneg_left s1.1 ha.1
  rw [mdS_rq a x 100 1 (by omega) (by omega) (by omega) (by omega) (by omega) (by omega), mdS_rq a y 100 1 (by omega) (by omega) (by omega) (by omega) (by omega) (by omega), rq1, rq1]
  simp only [if_true]
  generalize a * x = p at *
  generalize a * y = q at *
  rw [w64 (e := 60 * a) (by omega) (by omega), w64 (e := 150 * a) (by omega) (by omega), w64 (e := 150 * a + 99) (by omega) (by omega), wakes16 k (by omega)]
  rw [w64 (by split <;> omega) (by split <;> omega), w64 (by split <;> omega) (by split <;> omega)]
  rw [if_pos (by split <;> split <;> omega), if_pos (by split <;> omega), if_pos (by split <;> omega)]
  rfl
end Go.Proofs.Yteeajbnpbagjlaa.Pure
