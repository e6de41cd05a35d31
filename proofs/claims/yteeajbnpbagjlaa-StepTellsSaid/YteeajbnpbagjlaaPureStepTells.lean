/- StepTells: what any step asks of any level, or that it is no money: as the reference tells; for every input. -/
import Derived.Test.YteeajbnpbagjlaaPx17
import Derived.Test.YteeajbnpbagjlaaStepEv
namespace Go.Proofs.Yteeajbnpbagjlaa.Pure
set_option linter.unusedVariables false
open Go.RowKit Go.Proofs.Yteeajbnpbagjlaa.P Go.Proofs.YteeajbnpbagjlaaW.PrintWords Go.Proofs.YteeajbnpbagjlaaW.PrintLast Go.Proofs.YteeajbnpbagjlaaW.PrintMore Go.Proofs.Yteeajbnpbagjlaa.PlainM
theorem StepTells : annuitylaw16_StepTells.Pure := by
  intro a b c _ hb _
  obtain ⟨k, hk⟩ : ∃ k : Nat, 200 ≤ k := ⟨_, Nat.le_refl _⟩
  refine ⟨k, ?_⟩
  unfold annuitylaw16_StepTells.f
  rw [step_Of_is _ _ k (wf64 hb).2 (by omega), ref_Of_is16 _ _ k (wf64 hb).2 (by omega)]
  simp only [obind, if_true, step_Share_is, ref_Share_is]
  rw [wakes16 k (by omega)]
  rfl
end Go.Proofs.Yteeajbnpbagjlaa.Pure
