/- BillIssues: any bills with one more, covered by what was paid ahead, and what is left of that, are what the reference tells, or both tell that it can't be; for every input. -/
import Derived.Test.YtibjbgfphhmogaaPx18
import Derived.Test.YtibjbgfphhmogaaBillEv
namespace Go.Proofs.Ytibjbgfphhmogaa.Pure
set_option linter.unusedVariables false
open Go.RowKit Go.Proofs.Ytibjbgfphhmogaa.P Go.Proofs.YtibjbgfphhmogaaW.PrintWords Go.Proofs.YtibjbgfphhmogaaW.PrintLast Go.Proofs.YtibjbgfphhmogaaW.PrintMore Go.Proofs.Ytibjbgfphhmogaa.Plain
theorem BillIssues : annuitylaw19_BillIssues.Pure := by
  intro l n0 n1 w0 w1 _ _ _ _ _ _ _
  obtain ⟨k, hk⟩ : ∃ k : Nat, 10000 ≤ k := ⟨_, Nat.le_refl _⟩
  refine ⟨k, ?_⟩
  unfold annuitylaw19_BillIssues.f
  rcases large_or l k (by omega) with h | ⟨h, hs⟩
  · rw [h]
    simp only [obind, if_true]
    rw [wakes19 k (by omega)]
    rfl
  obtain ⟨hl, hf⟩ := hs
  rw [h]
  simp only [obind]
  rw [if_neg (by simp), copy_is l k (by omega) hf (by omega)]
  simp only [obind]
  have sm := issS_small l w0 n0 n1 w1 [w0, 7] (by omega) hf (by simp)
  rw [issue_is l k w0 n0 n1 w1 [w0, 7] (by omega) hf (by simp) (by omega)]
  simp only [obind]
  rw [rissue_is l k w0 n0 n1 w1 [w0, 7] (by omega) hf (by simp) (by omega)]
  simp only [obind]
  rw [if_pos (by simp), if_pos (by simp), bills_same _ k (by omega) sm.2 (by omega)]
  simp only [obind, if_true]
  rw [bills_same l k (by omega) hf (by omega)]
  simp only [obind, if_true]
  rw [wakes19 k (by omega)]
  rfl
end Go.Proofs.Ytibjbgfphhmogaa.Pure
