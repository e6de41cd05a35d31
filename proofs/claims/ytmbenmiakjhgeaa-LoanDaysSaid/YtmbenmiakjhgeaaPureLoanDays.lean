/- LoanDays: days and days more are as all at once for every loan; a loan that is closed stays as it is; for every input. -/
import Derived.Test.YtmbenmiakjhgeaaPx34
import Derived.Test.YtmbenmiakjhgeaaLoanAcc
import Derived.Test.YtmbenmiakjhgeaaLoanKeep
namespace Go.Proofs.Ytmbenmiakjhgeaa.Pure
set_option linter.unusedVariables false
open Go.RowKit Go.Proofs.Ytmbenmiakjhgeaa.P Go.Proofs.YtmbenmiakjhgeaaW.PrintWords Go.Proofs.YtmbenmiakjhgeaaW.PrintLast Go.Proofs.YtmbenmiakjhgeaaW.PrintMore Go.Proofs.Ytmbenmiakjhgeaa.PlainM
theorem LoanDays : annuitylaw14_LoanDays.Pure := by
  intro id pr it su fe ppm sd st cl en le fa ct u v _ _ _ _ _ _ _ _ _ _ _ _ hu hv
  have hu := wfu16 hu; have hv := wfu16 hv
  obtain ⟨k, hk⟩ : ∃ k : Nat, 200 ≤ k := ⟨_, Nat.le_refl _⟩
  refine ⟨k, ?_⟩
  unfold annuitylaw14_LoanDays.f
  rw [w64 (e := u) (by omega) (by omega), w64 (e := v) (by omega) (by omega), tmod_nn (by omega)]
  obtain ⟨y, hy⟩ : ∃ y, y = v % 20000 := ⟨_, rfl⟩
  rw [← hy, w64 (e := u + y) (by omega) (by omega)]
  have hy2 : 0 ≤ y ∧ y < 20000 := by omega
  rw [accrue_is _ _ _ _ _ _ _ _ _ _ _ _ _ _ k (by omega), accrue_is _ _ _ _ _ _ _ _ _ _ _ _ _ _ k (by omega)]
  simp only [obind]
  have W := wakes14 k (by omega)
  by_cases g : gd id pr it su fe ppm st cl en le fa ct
  case neg =>
    have e : ∀ d, accrueS id pr it su fe ppm sd st cl en le fa ct d = Zl 1 := fun d => by unfold accrueS; rw [if_neg g]
    rw [e, e]
    simp only [Zl]
    rw [if_neg (by omega), if_neg (by omega), if_pos trivial, W]; rfl
  have g' := g
  unfold gd mon at g'
  by_cases c : cl = 0
  case neg =>
    have e : ∀ d, 0 ≤ d → d ≤ 87658 → accrueS id pr it su fe ppm sd st cl en le fa ct d = (id, pr, it, su, fe, ppm, sd, st, cl, en, le, fa, ct, 0) := fun d h1 h2 => by unfold accrueS; rw [if_pos g, if_neg (by omega), if_pos c]
    rw [e _ (by omega) (by omega), e _ (by omega) (by omega)]
    simp only [if_true]
    rw [accrue_is _ _ _ _ _ _ _ _ _ _ _ _ _ _ k (by omega), e _ (by omega) (by omega)]
    simp only [obind, if_true, keep_self, if_neg c, ge_iff_le, Int.le_refl]
    rw [W]; rfl
  have b := daily_bd pr ppm (by omega)
  have hA : ∀ x d, 0 ≤ x → x ≤ 1000000000000000000 → 0 ≤ d → d ≤ 87658 → accS x pr ppm d = if x + pr * ppm / 365 * d > 1000000000000000000 then (0, 14) else (x + pr * ppm / 365 * d, 0) := by
    intro x d h1 h2 h3 h4; unfold accS; rw [if_neg (by omega)]
  have m1 : 0 ≤ pr * ppm / 365 * u := Int.mul_nonneg b.2.2.1 hu.1
  have m2 : 0 ≤ pr * ppm / 365 * y := Int.mul_nonneg b.2.2.1 hy2.1
  have m3 : pr * ppm / 365 * (u + y) = pr * ppm / 365 * u + pr * ppm / 365 * y := Int.mul_add _ _ _
  by_cases s : sd = true ∧ st ≤ 3
  · have e : ∀ x d, 0 ≤ x → x ≤ 1000000000000000000 → 0 ≤ d → d ≤ 87658 → accrueS id pr it x fe ppm sd st cl en le fa ct d = if x + pr * ppm / 365 * d > 1000000000000000000 then Zl 14 else (id, pr, it, x + pr * ppm / 365 * d, fe, ppm, sd, st, cl, en, le, fa, ct, 0) := by
      intro x d h1 h2 h3 h4
      unfold accrueS
      rw [if_pos (by unfold gd mon; omega), if_neg (by omega), if_neg (fun h => h c), if_pos s, hA x d h1 h2 h3 h4]
      by_cases o : x + pr * ppm / 365 * d > 1000000000000000000
      · simp only [if_pos o]; rw [if_neg (by omega)]
      · simp only [if_neg o, if_true]
    rw [e su _ (by omega) (by omega) (by omega) (by omega), e su _ (by omega) (by omega) (by omega) (by omega)]
    by_cases o : su + pr * ppm / 365 * (u + y) > 1000000000000000000
    · rw [if_pos o]
      by_cases o2 : su + pr * ppm / 365 * u > 1000000000000000000
      · rw [if_pos o2]; simp only [Zl]; rw [if_neg (by omega), if_neg (by omega), if_pos trivial, W]; rfl
      · rw [if_neg o2]; simp only [Zl]; rw [if_neg (by omega), if_pos trivial, W]; rfl
    · rw [if_neg o, if_neg (show ¬ su + pr * ppm / 365 * u > 1000000000000000000 by omega)]
      simp only [if_true]
      rw [accrue_is _ _ _ _ _ _ _ _ _ _ _ _ _ _ k (by omega), e _ _ (by omega) (by omega) (by omega) (by omega), if_neg (by omega), show su + pr * ppm / 365 * u + pr * ppm / 365 * y = su + pr * ppm / 365 * (u + y) by omega]
      simp only [obind, if_true, keep_self, if_pos c, ge_iff_le, Int.le_refl]
      rw [if_pos (by omega), W]; rfl
  · have e : ∀ x d, 0 ≤ x → x ≤ 1000000000000000000 → 0 ≤ d → d ≤ 87658 → accrueS id pr x su fe ppm sd st cl en le fa ct d = if x + pr * ppm / 365 * d > 1000000000000000000 then Zl 14 else (id, pr, x + pr * ppm / 365 * d, su, fe, ppm, sd, st, cl, en, le, fa, ct, 0) := by
      intro x d h1 h2 h3 h4
      unfold accrueS
      rw [if_pos (by unfold gd mon; omega), if_neg (by omega), if_neg (fun h => h c), if_neg s, hA x d h1 h2 h3 h4]
      by_cases o : x + pr * ppm / 365 * d > 1000000000000000000
      · simp only [if_pos o]; rw [if_neg (by omega)]
      · simp only [if_neg o, if_true]
    rw [e it _ (by omega) (by omega) (by omega) (by omega), e it _ (by omega) (by omega) (by omega) (by omega)]
    by_cases o : it + pr * ppm / 365 * (u + y) > 1000000000000000000
    · rw [if_pos o]
      by_cases o2 : it + pr * ppm / 365 * u > 1000000000000000000
      · rw [if_pos o2]; simp only [Zl]; rw [if_neg (by omega), if_neg (by omega), if_pos trivial, W]; rfl
      · rw [if_neg o2]; simp only [Zl]; rw [if_neg (by omega), if_pos trivial, W]; rfl
    · rw [if_neg o, if_neg (show ¬ it + pr * ppm / 365 * u > 1000000000000000000 by omega)]
      simp only [if_true]
      rw [accrue_is _ _ _ _ _ _ _ _ _ _ _ _ _ _ k (by omega), e _ _ (by omega) (by omega) (by omega) (by omega), if_neg (by omega), show it + pr * ppm / 365 * u + pr * ppm / 365 * y = it + pr * ppm / 365 * (u + y) by omega]
      simp only [obind, if_true, keep_self, if_pos c, ge_iff_le, Int.le_refl]
      rw [if_pos (by omega), W]; rfl
end Go.Proofs.Ytmbenmiakjhgeaa.Pure
