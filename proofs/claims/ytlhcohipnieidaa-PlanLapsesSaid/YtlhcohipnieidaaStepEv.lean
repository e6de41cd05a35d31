/- What the functions on steps, the program's and the reference's, come to, in plain numbers, for every number of rounds that is large enough. -/
import Derived.Test.YtlhcohipnieidaaPx17
import Derived.Test.YtlhcohipnieidaaPx18
import Derived.Test.YtlhcohipnieidaaMoneyLaws
namespace Go.Proofs.Ytlhcohipnieidaa.PureSt
set_option linter.unusedVariables false
open Go.RowKit Go.Proofs.Ytlhcohipnieidaa.P Go.Proofs.YtlhcohipnieidaaW.PrintWords Go.Proofs.YtlhcohipnieidaaW.PrintLast Go.Proofs.YtlhcohipnieidaaW.PrintMore Go.Proofs.Ytlhcohipnieidaa.PlainM Go.Proofs.Ytlhcohipnieidaa.Pure
/-- A step's share. -/
def shareS (k : Int) : Int := if k < 0 then 0 else if k = 0 then 60 else if k = 1 then 80 else if k = 2 then 100 else if k = 3 then 125 else 150
theorem step_Share_is (a : Int) : step_Share.f a = some (shareS a) := rfl
theorem shareS_bd (k : Int) : 0 ≤ shareS k ∧ shareS k ≤ 150 := by unfold shareS; (repeat' split) <;> omega
/-- A month's instalment. -/
def stepS (level n : Int) : Int × Int := if level < 0 ∨ level > 10000000000000 ∨ n < 0 then (0, 1) else mdS level (shareS (n / 24)) 100 1
theorem step_Of_is (x n : Int) (k : Nat) (hn : n ≤ 9223372036854775807) (hk : 100 ≤ k) : step_Of.f k x n = some (stepS x n) := by
  obtain ⟨k, rfl⟩ : ∃ m, k = m + 1 := ⟨k - 1, by omega⟩
  unfold step_Of.f stepS
  have e : step_Of.j0 (k + 1) x n true = some (0, 1) := by simp only [step_Of.j0, if_true]
  by_cases c1 : x < 0
  · rw [if_pos c1, if_pos (by omega)]; exact e
  rw [if_neg c1, money_Good_is]
  simp only [obind]
  by_cases c2 : -10000000000000 ≤ x ∧ x ≤ 10000000000000
  · rw [if_pos (decide_eq_true c2)]
    by_cases c3 : n < 0
    · rw [decide_eq_true c3, if_pos (by omega)]; exact e
    · rw [decide_eq_false c3, if_neg (by omega)]
      simp only [step_Of.j0]
      have hs := shareS_bd (n / 24)
      rw [if_neg (by simp), tdiv_nn (by omega), w64 (by omega) (by omega), step_Share_is]
      simp only [obind]
      rw [money_MulDiv_is _ _ _ _ k (by omega) (by omega) (by omega) (by omega)]
      rfl
  · rw [if_neg (by simpa using c2), if_pos (by omega)]; exact e
end Go.Proofs.Ytlhcohipnieidaa.PureSt
