/- The money functions' own check, and how rounded quotients compare, in plain numbers; for every number that is meant. -/

import Derived.Test.YtakcepffodipfaaMoneyEv
namespace Go.Proofs.Ytakcepffodipfaa.Pure
set_option linter.unusedVariables false
open Go.RowKit Go.Proofs.Ytakcepffodipfaa.P Go.Proofs.YtakcepffodipfaaW.PrintWords Go.Proofs.YtakcepffodipfaaW.PrintLast Go.Proofs.YtakcepffodipfaaW.PrintMore Go.Proofs.Ytakcepffodipfaa.PlainM
theorem mn_is (a b : Int) : mn a b = if a ≤ b then a else b := by unfold mn; split <;> split <;> omega
theorem mx_is (a b : Int) : mx a b = if a ≤ b then b else a := by unfold mx; split <;> split <;> omega
/-- A quotient rounded, where it is money for sure. -/
def rq (p d how : Int) : Int := if more how (p % d) d (p / d) = true then p / d + 1 else p / d
theorem more1 (r d q : Int) : more 1 r d q = decide (r > 0) := by unfold more; rw [if_pos rfl]
end Go.Proofs.Ytakcepffodipfaa.Pure
