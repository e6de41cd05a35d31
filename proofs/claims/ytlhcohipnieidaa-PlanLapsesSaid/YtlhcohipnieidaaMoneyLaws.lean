/- The money functions' own check, and how rounded quotients compare, in plain numbers; for every number that is meant. -/

import Derived.Test.YtlhcohipnieidaaMoneyEv
namespace Go.Proofs.Ytlhcohipnieidaa.Pure
set_option linter.unusedVariables false
open Go.RowKit Go.Proofs.Ytlhcohipnieidaa.P Go.Proofs.YtlhcohipnieidaaW.PrintWords Go.Proofs.YtlhcohipnieidaaW.PrintLast Go.Proofs.YtlhcohipnieidaaW.PrintMore Go.Proofs.Ytlhcohipnieidaa.PlainM
theorem mn_is (a b : Int) : mn a b = if a ≤ b then a else b := by unfold mn; split <;> split <;> omega
theorem mx_is (a b : Int) : mx a b = if a ≤ b then b else a := by unfold mx; split <;> split <;> omega
/-- A quotient rounded, where it is money for sure. -/
def rq (p d how : Int) : Int := if more how (p % d) d (p / d) = true then p / d + 1 else p / d
theorem mdS_rq (a b d how : Int) (ha : 0 ≤ a) (hb : 0 ≤ b) (hd : 0 < d) (h0 : 0 ≤ how) (h2 : how ≤ 2) (hp : a * b ≤ 9999999999999) : mdS a b d how = (rq (a * b) d how, 0) := by
  have hn := Int.mul_nonneg ha hb
  have hle := Int.ediv_le_self d hn
  unfold mdS rq roundS
  rw [if_neg (by omega), if_neg (by omega)]
  split
  · rw [if_neg (by omega)]
  · rfl
theorem more1 (r d q : Int) : more 1 r d q = decide (r > 0) := by unfold more; rw [if_pos rfl]
theorem rq1 (p d : Int) : rq p d 1 = if p % d > 0 then p / d + 1 else p / d := by
  unfold rq; rw [more1]; by_cases h : p % d > 0
  · rw [if_pos (decide_eq_true h), if_pos h]
  · rw [if_neg (by simpa using h), if_neg h]
end Go.Proofs.Ytlhcohipnieidaa.Pure
