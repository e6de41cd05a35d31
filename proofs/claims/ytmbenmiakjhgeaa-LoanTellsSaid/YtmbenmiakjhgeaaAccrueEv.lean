/- What the functions on interest, the program's and the reference's, come to, in plain numbers, for every number of rounds that is large enough. -/
import Derived.Test.YtmbenmiakjhgeaaPx4
import Derived.Test.YtmbenmiakjhgeaaPx8
import Derived.Test.YtmbenmiakjhgeaaPx20
import Derived.Test.YtmbenmiakjhgeaaPx22
import Derived.Test.YtmbenmiakjhgeaaPx25
import Derived.Test.YtmbenmiakjhgeaaPx26
import Derived.Test.YtmbenmiakjhgeaaMoneyLaws
namespace Go.Proofs.Ytmbenmiakjhgeaa.Pure
set_option linter.unusedVariables false
open Go.RowKit Go.Proofs.Ytmbenmiakjhgeaa.P Go.Proofs.YtmbenmiakjhgeaaW.PrintWords Go.Proofs.YtmbenmiakjhgeaaW.PrintLast Go.Proofs.YtmbenmiakjhgeaaW.PrintMore Go.Proofs.Ytmbenmiakjhgeaa.PlainM
/-- A day's interest. -/
def dailyS (p r : Int) : Int × Int := if p < 0 ∨ p > 10000000000000 ∨ r < 0 ∨ r > 1000000 then (0, 1) else (p * r / 365, 0)
theorem daily_bd (p r : Int) (h : ¬ (p < 0 ∨ p > 10000000000000 ∨ r < 0 ∨ r > 1000000)) : 0 ≤ p * r ∧ p * r ≤ 10000000000000000000 ∧ 0 ≤ p * r / 365 ∧ p * r / 365 ≤ 27397260273972602 := by
  have h1 : 0 ≤ p * r := Int.mul_nonneg (by omega) (by omega)
  have h2 : p * r ≤ 10000000000000 * 1000000 := Int.mul_le_mul (by omega) (by omega) (by omega) (by omega)
  omega
theorem daily_div (p r : Int) (h : ¬ (p < 0 ∨ p > 10000000000000 ∨ r < 0 ∨ r > 1000000)) : divS (p * r / 18446744073709551616) (p * r % 18446744073709551616) 365 = (p * r / 365, p * r % 365, true) := by
  have b := daily_bd p r h
  unfold divS
  rw [if_neg (by omega), show p * r / 18446744073709551616 * 18446744073709551616 + p * r % 18446744073709551616 = p * r by omega]
theorem accrue_Daily_is (p r : Int) (k : Nat) (hk : 50 ≤ k) : accrue_Daily.f k p r = some (dailyS p r) := by
  obtain ⟨k, rfl⟩ : ∃ m, k = m + 1 := ⟨k - 1, by omega⟩
  unfold accrue_Daily.f dailyS
  have e : accrue_Daily.j0 (k + 1) p r true = some (0, 1) := by simp only [accrue_Daily.j0, if_true]
  by_cases c : p < 0 ∨ p > 10000000000000 ∨ r < 0 ∨ r > 1000000
  · rw [if_pos c]
    by_cases c1 : p < 0
    · rw [if_pos c1]; exact e
    rw [if_neg c1, money_Good_is]
    simp only [obind]
    by_cases c2 : -10000000000000 ≤ p ∧ p ≤ 10000000000000
    · rw [if_pos (decide_eq_true c2)]
      by_cases c3 : r < 0
      · rw [if_pos c3]; exact e
      rw [if_neg c3, decide_eq_true (by omega)]; exact e
    · rw [if_neg (by simpa using c2)]; exact e
  · have b := daily_bd p r c
    rw [if_neg c, if_neg (by omega), money_Good_is, decide_eq_true (by omega)]
    simp only [obind, if_true]
    rw [if_neg (by omega), decide_eq_false (by omega)]
    simp only [accrue_Daily.j0]
    rw [if_neg (by simp), wu_id (n := p) (by omega) (by omega), wu_id (n := r) (by omega) (by omega), money_Mul_is p r (by omega) (by omega) (by omega) (by omega)]
    simp only [obind]
    rw [money_Div_is _ _ 365 k (by omega) (by omega) (by omega) (by omega) (by omega) (by omega), daily_div p r c]
    simp only [obind]
    rw [w64 (by omega) (by omega)]
theorem ref_Daily_is (p r : Int) (k : Nat) (hk : 100 ≤ k) : annuityref13_Daily.f k p r = some (dailyS p r) := by
  obtain ⟨k, rfl⟩ : ∃ m, k = m + 1 := ⟨k - 1, by omega⟩
  unfold annuityref13_Daily.f dailyS
  have e : annuityref13_Daily.j0 (k + 1) p r true = some (0, 1) := by simp only [annuityref13_Daily.j0, if_true]
  by_cases c : p < 0 ∨ p > 10000000000000 ∨ r < 0 ∨ r > 1000000
  · rw [if_pos c]
    by_cases c1 : p < 0
    · rw [if_pos c1]; exact e
    rw [if_neg c1, ref_mGood_is]
    simp only [obind]
    by_cases c2 : -10000000000000 ≤ p ∧ p ≤ 10000000000000
    · rw [if_pos (decide_eq_true c2)]
      by_cases c3 : r < 0
      · rw [if_pos c3]; exact e
      rw [if_neg c3, decide_eq_true (by omega)]; exact e
    · rw [if_neg (by simpa using c2)]; exact e
  · have b := daily_bd p r c
    rw [if_neg c, if_neg (by omega), ref_mGood_is, decide_eq_true (by omega)]
    simp only [obind, if_true]
    rw [if_neg (by omega), decide_eq_false (by omega)]
    simp only [annuityref13_Daily.j0]
    rw [if_neg (by simp), wu_id (n := p) (by omega) (by omega), wu_id (n := r) (by omega) (by omega), ref_Mul_is p r (by omega) (by omega) (by omega) (by omega)]
    simp only [obind]
    rw [ref_Div_is _ _ 365 k (by omega) (by omega) (by omega) (by omega) (by omega) (by omega), daily_div p r c]
    simp only [obind]
    rw [w64 (by omega) (by omega)]
/-- So many days more. -/
def accS (have_ p r days : Int) : Int × Int :=
  if p < 0 ∨ p > 10000000000000 ∨ r < 0 ∨ r > 1000000 ∨ have_ < 0 ∨ have_ > 1000000000000000000 ∨ days < 0 ∨ days > 87658 then (0, 1)
  else if have_ + p * r / 365 * days > 1000000000000000000 then (0, 14) else (have_ + p * r / 365 * days, 0)
theorem accrue_Add_is (x p r d : Int) (k : Nat) (hk : 50 ≤ k) : accrue_Add.f k x p r d = some (accS x p r d) := by
  unfold accrue_Add.f accS
  rw [accrue_Daily_is p r k hk]
  simp only [obind, dailyS]
  by_cases c : p < 0 ∨ p > 10000000000000 ∨ r < 0 ∨ r > 1000000
  · rw [if_pos c, if_pos (by omega), if_pos (by omega)]
  · have b := daily_bd p r c
    rw [if_neg c, if_neg (by omega)]
    dsimp only
    by_cases c1 : x < 0
    · rw [if_pos c1, if_pos (by omega)]
    rw [if_neg c1]
    by_cases c2 : x > 1000000000000000000
    · rw [if_pos c2, if_pos (by omega)]
    rw [if_neg c2]
    by_cases c3 : d < 0
    · rw [if_pos c3, if_pos (by omega)]
    rw [if_neg c3]
    by_cases c4 : d > 87658
    · rw [if_pos c4, if_pos (by omega)]
    rw [if_neg c4, if_pos (by omega), if_neg (show ¬ (p < 0 ∨ p > 10000000000000 ∨ r < 0 ∨ r > 1000000 ∨ x < 0 ∨ x > 1000000000000000000 ∨ d < 0 ∨ d > 87658) by omega)]
    have hn : 0 ≤ p * r / 365 * d := Int.mul_nonneg b.2.2.1 (by omega)
    by_cases c5 : p * r / 365 * d > 1000000000000000000
    · rw [if_pos c5, if_pos (by omega)]
    · rw [if_neg c5]; split <;> rfl
theorem ref_AccAdd_is (x p r d : Int) (k : Nat) (hk : 110 ≤ k) : annuityref13_Add.f k x p r d = some (accS x p r d) := by
  obtain ⟨k, rfl⟩ : ∃ m, k = m + 1 := ⟨k - 1, by omega⟩
  unfold annuityref13_Add.f accS
  rw [ref_Daily_is p r _ (by omega)]
  simp only [obind, dailyS]
  have e : ∀ z, annuityref13_Add.j0 (k + 1) x d z true = some (0, 1) := by intro z; simp only [annuityref13_Add.j0, if_true]
  by_cases c : p < 0 ∨ p > 10000000000000 ∨ r < 0 ∨ r > 1000000
  · rw [if_pos c, if_neg (by omega), if_pos (by omega)]; exact e _
  · have b := daily_bd p r c
    rw [if_neg c, if_pos rfl]
    by_cases c1 : x < 0
    · rw [if_pos c1, if_pos (by omega)]; exact e _
    rw [if_neg c1]
    by_cases c2 : x > 1000000000000000000
    · rw [if_pos c2, if_pos (by omega)]; exact e _
    rw [if_neg c2]
    by_cases c3 : d < 0
    · rw [if_pos c3, if_pos (by omega)]; exact e _
    rw [if_neg c3]
    by_cases c4 : d > 87658
    · rw [decide_eq_true c4, if_pos (by omega)]; exact e _
    rw [decide_eq_false c4, if_neg (by omega)]
    generalize p * r / 365 = z at *
    have hn : 0 ≤ z * d := Int.mul_nonneg b.2.2.1 (by omega)
    have hm : z * d ≤ 27397260273972602 * 87658 := Int.mul_le_mul (by omega) (by omega) (by omega) (by omega)
    simp only [annuityref13_Add.j0]
    rw [if_neg (by simp), wu_id (n := z) (by omega) (by omega), wu_id (n := d) (by omega) (by omega), ref_Mul_is z d (by omega) (by omega) (by omega) (by omega)]
    simp only [obind]
    rw [w64 (e := 1000000000000000000 - x) (by omega) (by omega), wu_id (n := 1000000000000000000 - x) (by omega) (by omega)]
    generalize z * d = q at *
    by_cases c5 : x + q > 1000000000000000000
    · rw [if_pos c5]
      by_cases c6 : q / 18446744073709551616 = 0
      · rw [if_pos c6, if_pos (by omega)]
      · rw [if_neg c6]
    · rw [if_neg c5, if_pos (by omega), if_neg (by omega), w64 (e := q % 18446744073709551616) (by omega) (by omega), w64 (by omega) (by omega), show q % 18446744073709551616 = q by omega]
theorem accrue_Whole_is (a : Int) (h : a ≤ 9223372036854775807) : accrue_Whole.f a = some (if a < 0 then 0 else a / 1000000) := by
  unfold accrue_Whole.f; rw [if_pos h]
theorem ref_Whole_is (a : Int) (h : a ≤ 9223372036854775807) : annuityref13_Whole.f a = some (if a < 0 then 0 else a / 1000000) := by
  unfold annuityref13_Whole.f
  by_cases c : a < 0
  · rw [if_pos c, if_pos c]
  · rw [if_neg c, if_neg c, tdiv_nn (by omega), w64 (by omega) (by omega)]
/-- What is left of millionths. -/
def takeS (a c : Int) : Int × Int := if a < 0 ∨ a > 1000000000000000000 ∨ c < 0 ∨ c > a / 1000000 then (0, 1) else (a - c * 1000000, 0)
end Go.Proofs.Ytmbenmiakjhgeaa.Pure
