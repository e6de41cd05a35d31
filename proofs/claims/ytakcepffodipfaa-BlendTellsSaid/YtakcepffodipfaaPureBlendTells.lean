/- BlendTells: rate, count and the joined loan are the reference's; for every input. -/
import Derived.Test.YtakcepffodipfaaPx30
import Derived.Test.YtakcepffodipfaaBlendJoin
namespace Go.Proofs.Ytakcepffodipfaa.PureB
set_option linter.unusedVariables false
open Go.RowKit Go.Proofs.Ytakcepffodipfaa.P Go.Proofs.YtakcepffodipfaaW.PrintWords Go.Proofs.YtakcepffodipfaaW.PrintLast Go.Proofs.YtakcepffodipfaaW.PrintMore Go.Proofs.Ytakcepffodipfaa.PlainM
theorem BlendTells : annuitylaw21_BlendTells.Pure := by
  intro l id d hm hy hw w1 w2
  obtain ⟨k, hk⟩ : ∃ k : Nat, 1500 ≤ k := ⟨_, Nat.le_refl _⟩
  refine ⟨k, ?_⟩
  unfold annuitylaw21_BlendTells.f
  by_cases c : (l.length : Int) > 100
  · rw [if_pos c, wakes21 k (by omega)]; rfl
  obtain ⟨v, hv⟩ := join_both l id d
  obtain ⟨j1, j2, _⟩ := hv k (by omega)
  rw [if_neg c, copy_is l (by omega)]
  simp only [obind]
  rw [rate_is l k (by omega), ref_rate_is l k (by omega), count_is l k (by omega), ref_count_is l k (by omega), j1, j2]
  simp only [obind, if_true]
  rw [keep_self, loans_same l (by omega) k (by omega), wakes21 k (by omega)]
  simp only [obind, if_true]
end Go.Proofs.Ytakcepffodipfaa.PureB
namespace Go.Proofs.Ytakcepffodipfaa.Pure
theorem BlendTells : Go.Proofs.Ytakcepffodipfaa.P.annuitylaw21_BlendTells.Pure := Go.Proofs.Ytakcepffodipfaa.PureB.BlendTells
end Go.Proofs.Ytakcepffodipfaa.Pure
