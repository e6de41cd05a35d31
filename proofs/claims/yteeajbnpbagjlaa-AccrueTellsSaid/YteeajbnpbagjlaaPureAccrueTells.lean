/- AccrueTells: a day's interest of any principal at any rate, and of any days more, or that there is none: as the reference tells; for every input. -/
import Derived.Test.YteeajbnpbagjlaaPx14
import Derived.Test.YteeajbnpbagjlaaAccrueEv
namespace Go.Proofs.Yteeajbnpbagjlaa.Pure
set_option linter.unusedVariables false
open Go.RowKit Go.Proofs.Yteeajbnpbagjlaa.P Go.Proofs.YteeajbnpbagjlaaW.PrintWords Go.Proofs.YteeajbnpbagjlaaW.PrintLast Go.Proofs.YteeajbnpbagjlaaW.PrintMore Go.Proofs.Yteeajbnpbagjlaa.PlainM
theorem AccrueTells : annuitylaw13_AccrueTells.Pure := by
  intro a b c d _ _ _ _
  obtain ⟨k, hk⟩ : ∃ k : Nat, 200 ≤ k := ⟨_, Nat.le_refl _⟩
  refine ⟨k, ?_⟩
  unfold annuitylaw13_AccrueTells.f
  rw [accrue_Daily_is _ _ k (by omega), ref_Daily_is _ _ k (by omega), accrue_Add_is _ _ _ _ k (by omega), ref_AccAdd_is _ _ _ _ k (by omega)]
  simp only [obind, if_true]
  rw [wakes13 k (by omega)]
  rfl
end Go.Proofs.Yteeajbnpbagjlaa.Pure
