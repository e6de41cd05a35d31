/- DueMonths: for any stretch of days the program's months whose first day lies in it are the reference's; for every input. -/
import Derived.Test.YtgogccjfoclakaaPx20
import Derived.Test.YtgogccjfoclakaaDueEv
namespace Go.Proofs.Ytgogccjfoclakaa.Pure
open Go.RowKit Go.Proofs.Ytgogccjfoclakaa.P Go.Proofs.YtgogccjfoclakaaW.PrintWords Go.Proofs.YtgogccjfoclakaaW.PrintLast Go.Proofs.YtgogccjfoclakaaW.PrintMore Go.Proofs.Ytgogccjfoclakaa.Plain
theorem DueMonths : annuitylaw05_DueMonths.Pure := by
  intro a0 a1 _ _
  obtain ⟨k, hk⟩ : ∃ k : Nat, 3000 ≤ k := ⟨_, Nat.le_refl _⟩
  refine ⟨k, ?_⟩
  obtain ⟨l, hl, h⟩ := months_both a0 a1
  unfold annuitylaw05_DueMonths.f
  rw [(h k hk).1, (h k hk).2]
  simp only [obind]
  rw [keep_Ints_same l k (by omega) (by omega)]
  simp only [obind, if_true]
  rw [wakes05 k hk]
  rfl
end Go.Proofs.Ytgogccjfoclakaa.Pure
