/- DateNumbers: for every year, month and day the program's number is the reference's, and so are the lengths of years and months; for every input. -/
import Derived.Test.YtgogccjfoclakaaPx8
import Derived.Test.YtgogccjfoclakaaDateEv
namespace Go.Proofs.Ytgogccjfoclakaa.Pure
open Go.RowKit Go.Proofs.Ytgogccjfoclakaa.P Go.Proofs.YtgogccjfoclakaaW.PrintWords Go.Proofs.YtgogccjfoclakaaW.PrintLast Go.Proofs.YtgogccjfoclakaaW.PrintMore Go.Proofs.Ytgogccjfoclakaa.Plain
theorem DateNumbers : annuitylaw04_DateNumbers.Pure := by
  intro a0 a1 a2 _ _ _
  obtain ⟨k, hk⟩ : ∃ k : Nat, 3000 ≤ k := ⟨_, Nat.le_refl _⟩
  refine ⟨k, ?_⟩
  unfold annuitylaw04_DateNumbers.f
  rw [date_Of_is _ _ _ k (by omega), ref_Of_is _ _ _ k (by omega)]
  simp only [obind, if_true, date_Long_is, ref_Long_is, date_Days_is]
  rw [ref_Days_is _ _ _ (by omega), wakes04 k (by omega)]
  simp
end Go.Proofs.Ytgogccjfoclakaa.Pure
