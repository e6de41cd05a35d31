/- AccrueTakes: the whole cents of any interest, and what is left when some are taken, or that they can't be: as the reference tells; for every input. -/
import Derived.Test.YteeajbnpbagjlaaPx19
import Derived.Test.YteeajbnpbagjlaaAccrueEv
namespace Go.Proofs.Yteeajbnpbagjlaa.Pure
set_option linter.unusedVariables false
open Go.RowKit Go.Proofs.Yteeajbnpbagjlaa.P Go.Proofs.YteeajbnpbagjlaaW.PrintWords Go.Proofs.YteeajbnpbagjlaaW.PrintLast Go.Proofs.YteeajbnpbagjlaaW.PrintMore Go.Proofs.Yteeajbnpbagjlaa.PlainM
theorem AccrueTakes : annuitylaw13_AccrueTakes.Pure := by
  intro a b ha _
  have ha := wf64 ha
  obtain ⟨k, hk⟩ : ∃ k : Nat, 200 ≤ k := ⟨_, Nat.le_refl _⟩
  refine ⟨k, ?_⟩
  unfold annuitylaw13_AccrueTakes.f
  rw [accrue_Take_is, ref_Take_is, accrue_Whole_is a ha.2, ref_Whole_is a ha.2]
  simp only [obind, if_true]
  rw [wakes13 k (by omega)]
  rfl
end Go.Proofs.Yteeajbnpbagjlaa.Pure
