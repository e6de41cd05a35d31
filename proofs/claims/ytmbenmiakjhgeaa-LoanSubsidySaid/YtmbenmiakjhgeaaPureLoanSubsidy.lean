/- LoanSubsidy: in school, grace and deferment a loan that is subsidised owes no interest: somebody else pays just what another one would owe; in repayment and forbearance both owe the same; for every input. -/
import Derived.Test.YtmbenmiakjhgeaaPx33
import Derived.Test.YtmbenmiakjhgeaaLoanAcc
namespace Go.Proofs.Ytmbenmiakjhgeaa.Pure
set_option linter.unusedVariables false
open Go.RowKit Go.Proofs.Ytmbenmiakjhgeaa.P Go.Proofs.YtmbenmiakjhgeaaW.PrintWords Go.Proofs.YtmbenmiakjhgeaaW.PrintLast Go.Proofs.YtmbenmiakjhgeaaW.PrintMore Go.Proofs.Ytmbenmiakjhgeaa.PlainM
theorem LoanSubsidy : annuitylaw14_LoanSubsidy.Pure := by
  intro n ppm days status hn hp hd hs
  have hn := wfu32 hn; have hp := wfu16 hp; have hd := wfu16 hd; have hs := wfu8 hs
  obtain ⟨k, hk⟩ : ∃ k : Nat, 200 ≤ k := ⟨_, Nat.le_refl _⟩
  refine ⟨k, ?_⟩
  unfold annuitylaw14_LoanSubsidy.f
  rw [w64 (e := n) (by omega) (by omega), w64 (e := ppm) (by omega) (by omega), w64 (e := days) (by omega) (by omega), w64 (e := status) (by omega) (by omega), tmod_nn (by omega), w64 (e := 1 + status % 5) (by omega) (by omega)]
  obtain ⟨st, hst⟩ : ∃ st, st = 1 + status % 5 := ⟨_, rfl⟩
  rw [← hst]
  have st1 : 1 ≤ st ∧ st ≤ 5 := by omega
  have b := daily_bd n ppm (by omega)
  have m0 : 0 ≤ n * ppm / 365 * days := Int.mul_nonneg b.2.2.1 hd.1
  have m2 : n * ppm ≤ 4294967295 * 65535 := Int.mul_le_mul hn.2 hp.2 hp.1 (by omega)
  have m1 : n * ppm / 365 * days ≤ 771152552541 * 65535 := Int.mul_le_mul (by omega) hd.2 hd.1 (by omega)
  have acc : accS 0 n ppm days = (n * ppm / 365 * days, 0) := by
    unfold accS
    rw [if_neg (by omega), if_neg (by omega)]
    simp
  have g : gd 1 n 0 0 0 ppm st 0 (-1) 0 0 0 := by unfold gd mon; omega
  have e1 : accrueS 1 n 0 0 0 ppm false st 0 (-1) 0 0 0 days = (1, n, n * ppm / 365 * days, 0, 0, ppm, false, st, 0, -1, 0, 0, 0, 0) := by
    unfold accrueS
    rw [if_pos g, if_neg (by omega), if_neg (by simp), if_neg (by simp), acc, if_pos rfl]
  rw [accrue_is _ _ _ _ _ _ _ _ _ _ _ _ _ _ k (by omega), accrue_is _ _ _ _ _ _ _ _ _ _ _ _ _ _ k (by omega), ref_AccAdd_is _ _ _ _ k (by omega), e1, acc]
  simp only [obind, if_true]
  by_cases c : st ≤ 3
  · have e2 : accrueS 1 n 0 0 0 ppm true st 0 (-1) 0 0 0 days = (1, n, 0, n * ppm / 365 * days, 0, ppm, true, st, 0, -1, 0, 0, 0, 0) := by
      unfold accrueS
      rw [if_pos g, if_neg (by omega), if_neg (by simp), if_pos ⟨rfl, c⟩, acc, if_pos rfl]
    rw [e2]
    simp only [if_true, if_pos c]
    rw [wakes14 k (by omega)]; rfl
  · have e2 : accrueS 1 n 0 0 0 ppm true st 0 (-1) 0 0 0 days = (1, n, n * ppm / 365 * days, 0, 0, ppm, true, st, 0, -1, 0, 0, 0, 0) := by
      unfold accrueS
      rw [if_pos g, if_neg (by omega), if_neg (by simp), if_neg (fun h => c h.2), acc, if_pos rfl]
    rw [e2]
    simp only [if_true, if_neg c]
    rw [wakes14 k (by omega)]; rfl
end Go.Proofs.Ytmbenmiakjhgeaa.Pure
