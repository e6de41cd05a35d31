/- Sums of money, the program's and the reference's, in plain numbers, for every list that is not too long to be there. -/
import Derived.Test.YtlhcohipnieidaaPx1
import Derived.Test.YtlhcohipnieidaaPx9
import Derived.Test.YtlhcohipnieidaaPx31
import Derived.Test.YtlhcohipnieidaaMoneyLaws
namespace Go.Proofs.Ytlhcohipnieidaa.Pure
set_option linter.unusedVariables false
open Go.RowKit Go.Proofs.Ytlhcohipnieidaa.P Go.Proofs.YtlhcohipnieidaaW.PrintWords Go.Proofs.YtlhcohipnieidaaW.PrintLast Go.Proofs.YtlhcohipnieidaaW.PrintMore Go.Proofs.Ytlhcohipnieidaa.PlainM
theorem isMoney_is (a : Int) : isMoney a = decide (-10000000000000 ≤ a ∧ a ≤ 10000000000000) := rfl
/-- Two numbers of money together. -/
def addS (a b : Int) : Int × Int := if (isMoney a && (isMoney b && isMoney (a + b))) = true then (a + b, 0) else (0, 14)
theorem money_Add_is (a b : Int) : money_Add.f a b = some (addS a b) := by
  unfold money_Add.f money_Sum.f
  rw [if_pos (by simp)]
  simp only [obind]
  congr 1
  show money_Sum.go [a, b] 0 = addS a b
  unfold addS
  simp only [money_Sum.go]
  rw [show isMoney 0 = true by decide, Bool.true_and, Int.zero_add]
  cases h1 : isMoney a
  · simp
  · cases h2 : isMoney b
    · simp
    · simp
theorem rd_at (l : List Int) (j : Nat) (h : j < l.length) : l.drop j = rd l j :: l.drop (j + 1) := by
  rw [List.drop_eq_getElem_cons h]; congr 1; unfold rd; simp [List.getD_eq_getElem?_getD, h]
end Go.Proofs.Ytlhcohipnieidaa.Pure
