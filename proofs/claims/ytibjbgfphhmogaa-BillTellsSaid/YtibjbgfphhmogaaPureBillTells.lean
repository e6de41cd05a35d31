/- BillTells: whether any bills are good, which one is open, how late they are on any day, and any month's, is what the reference tells; for every input. -/
import Derived.Test.YtibjbgfphhmogaaPx20
import Derived.Test.YtibjbgfphhmogaaBillEv
namespace Go.Proofs.Ytibjbgfphhmogaa.Pure
set_option linter.unusedVariables false
open Go.RowKit Go.Proofs.Ytibjbgfphhmogaa.P Go.Proofs.YtibjbgfphhmogaaW.PrintWords Go.Proofs.YtibjbgfphhmogaaW.PrintLast Go.Proofs.YtibjbgfphhmogaaW.PrintMore Go.Proofs.Ytibjbgfphhmogaa.Plain
theorem BillTells : annuitylaw19_BillTells.Pure := by
  intro l day month _ _ _ _ _
  obtain ⟨k, hk⟩ : ∃ k : Nat, 10000 ≤ k := ⟨_, Nat.le_refl _⟩
  refine ⟨k, ?_⟩
  unfold annuitylaw19_BillTells.f
  rcases large_or l k (by omega) with h | ⟨h, hs⟩
  · rw [h]
    simp only [obind, if_true]
    rw [wakes19 k (by omega)]
    rfl
  obtain ⟨hl, hf⟩ := hs
  rw [h]
  simp only [obind]
  rw [if_neg (by simp), copy_is l k (by omega) hf (by omega)]
  simp only [obind]
  rw [find_is l k month (by omega) hf (by omega)]
  simp only [obind]
  rw [rfind_is l k month (by omega) (by omega)]
  simp only [obind]
  rw [good_is l k (by omega)]
  simp only [obind]
  rw [rgood_is l k (by omega)]
  simp only [obind]
  rw [beq_self_eq_true, if_pos rfl, open_is l k (by omega)]
  simp only [obind]
  rw [ropen_is l k (by omega) (by omega)]
  simp only [obind]
  rw [if_pos trivial, late_is l k day (by omega)]
  simp only [obind]
  rw [rlate_is l k day (by omega) (by omega)]
  simp only [obind]
  rw [if_pos trivial, bill_same _ _ _ _ _ _ k (findS_small l month hf) (by omega)]
  simp only [obind]
  rw [if_pos trivial, beq_self_eq_true, if_pos rfl, bills_same l k (by omega) hf (by omega)]
  simp only [obind, if_true]
  rw [wakes19 k (by omega)]
  rfl
end Go.Proofs.Ytibjbgfphhmogaa.Pure
