/- DateAdds: for every day and every number of months the program's day so many months on is the reference's; for every input. -/
import Derived.Test.YtgogccjfoclakaaPx10
import Derived.Test.YtgogccjfoclakaaDateEv
namespace Go.Proofs.Ytgogccjfoclakaa.Pure
open Go.RowKit Go.Proofs.Ytgogccjfoclakaa.P Go.Proofs.YtgogccjfoclakaaW.PrintWords Go.Proofs.YtgogccjfoclakaaW.PrintLast Go.Proofs.YtgogccjfoclakaaW.PrintMore Go.Proofs.Ytgogccjfoclakaa.Plain
theorem DateAdds : annuitylaw04_DateAdds.Pure := by
  intro a0 a1 _ _
  obtain ⟨k, hk⟩ : ∃ k : Nat, 3000 ≤ k := ⟨_, Nat.le_refl _⟩
  refine ⟨k, ?_⟩
  obtain ⟨r, hr⟩ := add_both a0 a1
  have h := hr k (by omega)
  unfold annuitylaw04_DateAdds.f
  rw [h.1, h.2]
  simp only [obind, if_true]
  rw [wakes04 k (by omega)]
  simp
end Go.Proofs.Ytgogccjfoclakaa.Pure
