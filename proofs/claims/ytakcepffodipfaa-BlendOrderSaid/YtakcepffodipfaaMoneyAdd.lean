/- Sums of money, and whole cents of interest, the program's and the reference's, in plain numbers. -/
import Derived.Test.YtakcepffodipfaaPx1
import Derived.Test.YtakcepffodipfaaPx3
import Derived.Test.YtakcepffodipfaaPx12
import Derived.Test.YtakcepffodipfaaPx14
import Derived.Test.YtakcepffodipfaaPlainMoney
namespace Go.Proofs.Ytakcepffodipfaa.PureL
set_option linter.unusedVariables false
open Go.RowKit Go.Proofs.Ytakcepffodipfaa.P Go.Proofs.YtakcepffodipfaaW.PrintWords Go.Proofs.YtakcepffodipfaaW.PrintLast Go.Proofs.YtakcepffodipfaaW.PrintMore Go.Proofs.Ytakcepffodipfaa.PlainM
theorem money_Good_is (a : Int) : money_Good.f a = some (decide (-10000000000000 ≤ a ∧ a ≤ 10000000000000)) := by
  unfold money_Good.f
  by_cases h : a ≥ -10000000000000
  · rw [if_pos h]; simp [h]
  · rw [if_neg h]; simp; omega
theorem ref_mGood_is (a : Int) : annuityref01_Good.f a = some (decide (-10000000000000 ≤ a ∧ a ≤ 10000000000000)) := by
  unfold annuityref01_Good.f
  by_cases h : a ≥ -10000000000000
  · rw [if_pos h]; simp [h]
  · rw [if_neg h]; simp; omega
theorem isMoney_is (a : Int) : isMoney a = decide (-10000000000000 ≤ a ∧ a ≤ 10000000000000) := rfl
/-- Two numbers of money together. -/
def addS (a b : Int) : Int × Int := if (isMoney a && (isMoney b && isMoney (a + b))) = true then (a + b, 0) else (0, 14)
theorem isMoney_bd {a : Int} (h : isMoney a = true) : -10000000000000 ≤ a ∧ a ≤ 10000000000000 := by simpa [isMoney] using h
theorem money_Add_is (a b : Int) : money_Add.f a b = some (addS a b) := by
  unfold money_Add.f money_Sum.f
  rw [if_pos (by simp)]
  simp only [obind]
  congr 1
  show money_Sum.go [a, b] 0 = addS a b
  unfold addS
  simp only [money_Sum.go]
  rw [show isMoney 0 = true by decide, Bool.true_and, Int.zero_add]
  cases h1 : isMoney a
  · simp
  · cases h2 : isMoney b
    · simp
    · simp
theorem ref_mAdd_is (a b : Int) : annuityref01_Add.f a b = some (addS a b) := by
  unfold annuityref01_Add.f addS
  simp only [ref_mGood_is, ← isMoney_is, obind]
  cases h1 : isMoney a
  · simp
  · cases h2 : isMoney b
    · simp
    · have b1 := isMoney_bd h1; have b2 := isMoney_bd h2
      rw [w64 (by omega) (by omega)]
      cases h3 : isMoney (a + b) <;> simp
theorem ref_Whole_is (a : Int) (h : a ≤ 9223372036854775807) : annuityref13_Whole.f a = some (if a < 0 then 0 else a / 1000000) := by
  unfold annuityref13_Whole.f
  by_cases c : a < 0
  · rw [if_pos c, if_pos c]
  · rw [if_neg c, if_neg c, tdiv_nn (by omega), w64 (by omega) (by omega)]
end Go.Proofs.Ytakcepffodipfaa.PureL
