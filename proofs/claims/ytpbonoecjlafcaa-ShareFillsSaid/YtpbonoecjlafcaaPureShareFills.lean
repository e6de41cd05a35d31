/- ShareFills: money that fills any rooms, one behind the other, and what is left, or that it can't be: as the reference tells; for every input. -/
import Derived.Test.YtpbonoecjlafcaaPx10
import Derived.Test.YtpbonoecjlafcaaShareEv
namespace Go.Proofs.Ytpbonoecjlafcaa.Pure
set_option linter.unusedVariables false
open Go.RowKit Go.Proofs.Ytpbonoecjlafcaa.P Go.Proofs.YtpbonoecjlafcaaW.PrintWords Go.Proofs.YtpbonoecjlafcaaW.PrintLast Go.Proofs.YtpbonoecjlafcaaW.PrintMore Go.Proofs.Ytpbonoecjlafcaa.PlainM
theorem ShareFills : annuitylaw02_ShareFills.Pure := by
  intro t l _ _ _ _
  obtain ⟨k, hk⟩ : ∃ k : Nat, 4000 ≤ k := ⟨_, Nat.le_refl _⟩
  refine ⟨k, ?_⟩
  unfold annuitylaw02_ShareFills.f
  by_cases c : (l.length : Int) > 1200
  · rw [if_pos c, wakes02 k (by omega)]; rfl
  rw [if_neg c]
  simp only [obind, List.nil_append, List.length_nil]
  rw [if_pos (by omega), fill_is t l k (by omega) (by omega), ref_fill_is t l k (by omega) (by omega)]
  simp only [obind]
  have n := fillF_len t l
  rw [longs_same _ k (by omega) (by omega)]
  simp only [obind, if_true]
  rw [longs_same _ k (by omega) (by omega)]
  simp only [obind, if_true]
  rw [wakes02 k (by omega)]
  rfl
end Go.Proofs.Ytpbonoecjlafcaa.Pure
