/- What the reference says that days make of a loan, what one owes, and what capitalizing comes to. -/
import Derived.Test.YtmbenmiakjhgeaaZd
import Derived.Test.YtmbenmiakjhgeaaPx27
import Derived.Test.YtmbenmiakjhgeaaPx28
import Derived.Test.YtmbenmiakjhgeaaLoanRef
import Derived.Test.YtmbenmiakjhgeaaLoanAcc
namespace Go.Proofs.Ytmbenmiakjhgeaa.Pure
set_option linter.unusedVariables false
set_option linter.unusedSimpArgs false
open Go.RowKit Go.Proofs.Ytmbenmiakjhgeaa.P Go.Proofs.YtmbenmiakjhgeaaW.PrintWords Go.Proofs.YtmbenmiakjhgeaaW.PrintLast Go.Proofs.YtmbenmiakjhgeaaW.PrintMore Go.Proofs.Ytmbenmiakjhgeaa.PlainM
theorem ref_owes_is (id pr it su fe ppm : Int) (sd : Bool) (st cl en le fa ct : Int) : annuityref14_Owes.f id pr it su fe ppm sd st cl en le fa ct = some (owesS id pr it su fe ppm st cl en le fa ct) := by
  unfold annuityref14_Owes.f owesS
  rw [ref_good_is]
  simp only [obind, decide_eq_true_eq]
  by_cases g : gd id pr it su fe ppm st cl en le fa ct
  · rw [if_pos g, if_pos g]
    have g' := g
    unfold gd mon at g'
    rw [ref_add_nn pr fe (by omega) (by omega) (by omega) (by omega)]
    simp only [obind]
    by_cases c : pr + fe > 10000000000000
    · rw [if_pos c, if_pos c, if_neg (by simp)]
    · rw [if_neg c, if_neg c, if_pos rfl, ref_Whole_nn it (by omega) (by omega)]
      simp only [obind]
      rw [ref_add_nn (pr + fe) (it / 1000000) (by omega) (by omega) (by omega) (by omega)]
      simp only [obind]
  · rw [if_neg g, if_neg g]
theorem cap_is (id pr it su fe ppm : Int) (sd : Bool) (st cl en le fa ct : Int) (k : Nat) (hk : 10 ≤ k) : loan_Capitalize.f k id pr it su fe ppm sd st cl en le fa ct = some (capS id pr it su fe ppm sd st cl en le fa ct) := by
  unfold loan_Capitalize.f capS
  rw [good_is _ _ _ _ _ _ _ _ _ _ _ _ _ k hk]
  simp only [obind, decide_eq_true_eq]
  by_cases g : gd id pr it su fe ppm st cl en le fa ct
  · rw [if_pos g, if_pos g]
    have g' := g
    unfold gd mon at g'
    rw [if_pos g'.2.2.1.1]
    by_cases c : cl = 0
    · rw [if_pos c, if_pos c, madd_nn pr (it / 1000000) (by omega) (by omega) (by omega) (by omega)]
      simp only [obind]
      by_cases d : pr + it / 1000000 > 10000000000000
      · rw [if_pos d, if_pos d, if_neg (by simp)]; rfl
      · rw [if_neg d, if_neg d, if_pos rfl]
    · rw [if_neg c, if_neg c]; rfl
  · rw [if_neg g, if_neg g]; rfl
theorem ref_accrue_is (id pr it su fe ppm : Int) (sd : Bool) (st cl en le fa ct days : Int) (k : Nat) (hk : 120 ≤ k) : annuityref14_Accrue.f k id pr it su fe ppm sd st cl en le fa ct days = some (accrueS id pr it su fe ppm sd st cl en le fa ct days) := by
  obtain ⟨k, rfl⟩ : ∃ m, k = m + 2 := ⟨k - 2, by omega⟩
  have e0 : annuityref14_Accrue.j0 (k + 2) days true id pr it su fe ppm sd st cl en le fa ct = some (Zl 1) := by simp only [annuityref14_Accrue.j0, if_true]; rfl
  unfold annuityref14_Accrue.f accrueS
  rw [ref_good_is]
  simp only [obind, decide_eq_true_eq]
  by_cases g : gd id pr it su fe ppm st cl en le fa ct
  · rw [if_pos g, if_pos g]
    by_cases c0 : days < 0 ∨ 87658 < days
    · rw [if_pos c0]
      by_cases c : days < 0
      · rw [if_pos c]; exact e0
      · rw [if_neg c, decide_eq_true (by omega)]; exact e0
    rw [if_neg c0, if_neg (by omega), decide_eq_false (by omega)]
    simp only [annuityref14_Accrue.j0]
    rw [if_neg (by simp)]
    by_cases c1 : cl = 0
    case neg => rw [if_neg c1, if_pos c1]
    rw [if_pos c1, if_neg (show ¬ ¬ cl = 0 from fun h => h c1)]
    have A : annuityref14_Accrue.j1 (k + 1) days true id pr it su fe ppm sd st cl en le fa ct = some (if (accS su pr ppm days).2 = 0 then (id, pr, it, (accS su pr ppm days).1, fe, ppm, sd, st, cl, en, le, fa, ct, 0) else Zl (accS su pr ppm days).2) := by
      simp only [annuityref14_Accrue.j1]
      rw [if_pos trivial, ref_AccAdd_is _ _ _ _ k (by omega)]
      simp only [obind]
      by_cases d : (accS su pr ppm days).2 = 0
      · rw [if_pos d, if_pos d]
      · rw [if_neg d, if_neg d]; rfl
    have B : annuityref14_Accrue.j1 (k + 1) days false id pr it su fe ppm sd st cl en le fa ct = some (if (accS it pr ppm days).2 = 0 then (id, pr, (accS it pr ppm days).1, su, fe, ppm, sd, st, cl, en, le, fa, ct, 0) else Zl (accS it pr ppm days).2) := by
      simp only [annuityref14_Accrue.j1]
      rw [if_neg (by simp), ref_AccAdd_is _ _ _ _ k (by omega)]
      simp only [obind]
      by_cases d : (accS it pr ppm days).2 = 0
      · rw [if_pos d, if_pos d]
      · rw [if_neg d, if_neg d]; rfl
    cases sd with
    | true =>
      rw [if_pos rfl]
      by_cases c3 : st ≤ 3
      · rw [decide_eq_true c3, if_pos ⟨rfl, c3⟩]; exact A
      · rw [decide_eq_false c3, if_neg (fun h => c3 h.2)]; exact B
    | false => rw [if_neg (by simp), if_neg (by simp)]; exact B
  · rw [if_neg g, if_neg g]; exact e0
end Go.Proofs.Ytmbenmiakjhgeaa.Pure
