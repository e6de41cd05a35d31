/- Sums of money, and whole cents of interest, the program's and the reference's, in plain numbers. -/
import Derived.Test.YtlhcohipnieidaaPx1
import Derived.Test.YtlhcohipnieidaaPx9
import Derived.Test.YtlhcohipnieidaaPlainMoney
namespace Go.Proofs.Ytlhcohipnieidaa.PureL
set_option linter.unusedVariables false
open Go.RowKit Go.Proofs.Ytlhcohipnieidaa.P Go.Proofs.YtlhcohipnieidaaW.PrintWords Go.Proofs.YtlhcohipnieidaaW.PrintLast Go.Proofs.YtlhcohipnieidaaW.PrintMore Go.Proofs.Ytlhcohipnieidaa.PlainM
theorem money_Good_is (a : Int) : money_Good.f a = some (decide (-10000000000000 ≤ a ∧ a ≤ 10000000000000)) := by
  unfold money_Good.f
  by_cases h : a ≥ -10000000000000
  · rw [if_pos h]; simp [h]
  · rw [if_neg h]; simp; omega
theorem isMoney_is (a : Int) : isMoney a = decide (-10000000000000 ≤ a ∧ a ≤ 10000000000000) := rfl
/-- Two numbers of money together. -/
def addS (a b : Int) : Int × Int := if (isMoney a && (isMoney b && isMoney (a + b))) = true then (a + b, 0) else (0, 14)
theorem money_Add_is (a b : Int) : money_Add.f a b = some (addS a b) := by
  unfold money_Add.f money_Sum.f
  rw [if_pos (by simp)]
  simp only [obind]
  congr 1
  show money_Sum.go [a, b] 0 = addS a b
  unfold addS
  simp only [money_Sum.go]
  rw [show isMoney 0 = true by decide, Bool.true_and, Int.zero_add]
  cases h1 : isMoney a
  · simp
  · cases h2 : isMoney b
    · simp
    · simp
end Go.Proofs.Ytlhcohipnieidaa.PureL
