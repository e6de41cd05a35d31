/- LevelOf: the program's least payment is the reference's; for every input. -/
import Derived.Test.YtgobgjokelbngaaPx32
import Derived.Test.YtgobgjokelbngaaLevelEv
namespace Go.Proofs.Ytgobgjokelbngaa.Pure
set_option linter.unusedVariables false
open Go.RowKit Go.Proofs.Ytgobgjokelbngaa.P Go.Proofs.YtgobgjokelbngaaW.PrintWords Go.Proofs.YtgobgjokelbngaaW.PrintLast Go.Proofs.YtgobgjokelbngaaW.PrintMore Go.Proofs.Ytgobgjokelbngaa.PlainM Go.Proofs.Ytgobgjokelbngaa.PlainL
theorem LevelOf : annuitylaw15_LevelOf.Pure := by
  intro b r m hb hr hm
  obtain ⟨k, hk⟩ : ∃ k : Nat, 700 ≤ k := ⟨_, Nat.le_refl _⟩
  refine ⟨k, ?_⟩
  obtain ⟨v, e, hs, hf⟩ := Of_both b r m
  unfold annuitylaw15_LevelOf.f
  rw [hf k (by omega), ref_Of_is hs k (by omega), wakes15 k (by omega)]
  simp only [obind, if_true]
end Go.Proofs.Ytgobgjokelbngaa.Pure
