/- BillCredits: any bills that are covered, the first ones first, and what is left, are what the reference tells, or both tell that they can't be; for every input. -/
import Derived.Test.YtibjbgfphhmogaaPx18
import Derived.Test.YtibjbgfphhmogaaBillEv
namespace Go.Proofs.Ytibjbgfphhmogaa.Pure
set_option linter.unusedVariables false
open Go.RowKit Go.Proofs.Ytibjbgfphhmogaa.P Go.Proofs.YtibjbgfphhmogaaW.PrintWords Go.Proofs.YtibjbgfphhmogaaW.PrintLast Go.Proofs.YtibjbgfphhmogaaW.PrintMore Go.Proofs.Ytibjbgfphhmogaa.Plain
theorem BillCredits : annuitylaw19_BillCredits.Pure := by
  intro l amount day _ _ _ _ _
  obtain ⟨k, hk⟩ : ∃ k : Nat, 10000 ≤ k := ⟨_, Nat.le_refl _⟩
  refine ⟨k, ?_⟩
  unfold annuitylaw19_BillCredits.f
  rcases large_or l k (by omega) with h | ⟨h, hs⟩
  · rw [h]
    simp only [obind, if_true]
    rw [wakes19 k (by omega)]
    rfl
  obtain ⟨hl, hf⟩ := hs
  rw [h]
  simp only [obind]
  rw [if_neg (by simp), copy_is l k (by omega) hf (by omega)]
  simp only [obind]
  have sm := credS_small l amount day (by omega) hf
  rw [credit_is l k amount day (by omega) hf (by omega)]
  simp only [obind]
  rw [rcredit_is l k amount day (by omega) hf (by omega)]
  simp only [obind]
  rw [bills_same _ k (by omega) sm.2 (by omega)]
  simp only [obind, if_true]
  rw [bills_same l k (by omega) hf (by omega)]
  simp only [obind, if_true]
  rw [wakes19 k (by omega)]
  rfl
end Go.Proofs.Ytibjbgfphhmogaa.Pure
