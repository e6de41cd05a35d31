/- What days make of a loan. -/
import Derived.Test.YtmbenmiakjhgeaaZn
import Derived.Test.YtmbenmiakjhgeaaLoanEv
import Derived.Test.YtmbenmiakjhgeaaAccrueEv
namespace Go.Proofs.Ytmbenmiakjhgeaa.Pure
set_option linter.unusedVariables false
set_option linter.unusedSimpArgs false
open Go.RowKit Go.Proofs.Ytmbenmiakjhgeaa.P Go.Proofs.YtmbenmiakjhgeaaW.PrintWords Go.Proofs.YtmbenmiakjhgeaaW.PrintLast Go.Proofs.YtmbenmiakjhgeaaW.PrintMore Go.Proofs.Ytmbenmiakjhgeaa.PlainM
/-- Days go by. -/
def accrueS (id pr it su fe ppm : Int) (sd : Bool) (st cl en le fa ct days : Int) : Int × Int × Int × Int × Int × Int × Bool × Int × Int × Int × Int × Int × Int × Int :=
  if gd id pr it su fe ppm st cl en le fa ct then (if days < 0 ∨ 87658 < days then Zl 1 else if ¬ cl = 0 then (id, pr, it, su, fe, ppm, sd, st, cl, en, le, fa, ct, 0)
    else if sd = true ∧ st ≤ 3 then (if (accS su pr ppm days).2 = 0 then (id, pr, it, (accS su pr ppm days).1, fe, ppm, sd, st, cl, en, le, fa, ct, 0) else Zl (accS su pr ppm days).2)
    else (if (accS it pr ppm days).2 = 0 then (id, pr, (accS it pr ppm days).1, su, fe, ppm, sd, st, cl, en, le, fa, ct, 0) else Zl (accS it pr ppm days).2)) else Zl 1
theorem accrue_is (id pr it su fe ppm : Int) (sd : Bool) (st cl en le fa ct days : Int) (k : Nat) (hk : 60 ≤ k) : loan_Accrue.f k id pr it su fe ppm sd st cl en le fa ct days = some (accrueS id pr it su fe ppm sd st cl en le fa ct days) := by
  unfold loan_Accrue.f accrueS
  rw [good_is _ _ _ _ _ _ _ _ _ _ _ _ _ k (by omega)]
  simp only [obind, decide_eq_true_eq]
  by_cases g : gd id pr it su fe ppm st cl en le fa ct
  · rw [if_pos g, if_pos g]
    by_cases c0 : days < 0 ∨ 87658 < days
    · rw [if_pos c0, if_pos c0]; rfl
    rw [if_neg c0, if_neg c0]
    by_cases c1 : ¬ cl = 0
    · rw [if_pos c1, if_pos c1]
    rw [if_neg c1, if_neg c1]
    by_cases c2 : sd = true ∧ st ≤ 3
    · simp only [if_pos c2]
      rw [accrue_Add_is _ _ _ _ k (by omega)]
      simp only [obind]
      by_cases d : (accS su pr ppm days).2 = 0
      · rw [if_pos d, if_pos d]
      · rw [if_neg d, if_neg d]; rfl
    · simp only [if_neg c2]
      rw [accrue_Add_is _ _ _ _ k (by omega)]
      simp only [obind]
      by_cases d : (accS it pr ppm days).2 = 0
      · rw [if_pos d, if_pos d]
      · rw [if_neg d, if_neg d]; rfl
  · rw [if_neg g, if_neg g]; rfl
end Go.Proofs.Ytmbenmiakjhgeaa.Pure
