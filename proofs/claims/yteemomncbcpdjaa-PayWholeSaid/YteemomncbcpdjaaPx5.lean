/- Functions of the program as plain Lean functions, and proofs that its calls come to just their answers, where they tell one (written by a program of this session). -/
import Derived.Test.YteemomncbcpdjaaPx0
namespace Go.Proofs.Yteemomncbcpdjaa.P
open Go.RowKit Go.Proofs.YteemomncbcpdjaaW.PrintWords Go.Proofs.YteemomncbcpdjaaW.PrintLast Go.Proofs.YteemomncbcpdjaaW.PrintMore
attribute [local go_sem] max2_int min2_int max_two min_two max_three min_three max_four min_four   -- for this text's walks alone
set_option linter.unusedVariables false
set_option linter.unusedSimpArgs false

-- NOT PRINTED: function 19 (pay_All_1)

-- NOT PRINTED: function 23 (pay_All_2)

/-! ### accrue_Whole: function 25 -/
def accrue_Whole.f (a0 : Int) : Option (Int) := if a0 ≤ 9223372036854775807 then some (if a0 < 0 then 0 else a0 / 1000000) else none
set_option maxHeartbeats 8000000 in
set_option maxRecDepth 100000 in
theorem accrue_Whole.calls (a0 : Int) (r : Int) (w : World) (h : accrue_Whole.f a0 = some r) :
  Calls Try.prog 25 #[.int .i64 a0] w fun e w' => e = .returned (.int .i64 r) ∧ Drawn0 w w' := by
 have hb : a0 ≤ 9223372036854775807 := by
  by_cases c : a0 ≤ 9223372036854775807
  ·exact c
  ·rw [accrue_Whole.f, if_neg c] at h; cases h
 rw [accrue_Whole.f, if_pos hb] at h
 obtain rfl := Option.some.inj h
 clear h
 by_cases c : a0 < 0
 ·have c1 : decide (a0 < 0) = true := decide_eq_true c
  rw [if_pos c]
  go_enter Try.func25, Try.ntmps25
  go_wp2
  go_ret
  refine ⟨?_, Drawn0.refl _⟩
  simp [c]
 ·have c1 : decide (a0 < 0) = false := decide_eq_false c
  rw [if_neg c]
  go_enter Try.func25, Try.ntmps25
  go_wp2
  go_ret
  refine ⟨?_, Drawn0.refl _⟩
  simp [c]

-- NOT PRINTED: function 57 (slices_IndexFunc_int64_int64)

-- NOT PRINTED: function 52 (slices_ContainsFunc_int64_int64)

-- NOT PRINTED: function 53 (share_good_1)

-- NOT PRINTED: function 43 (share_good)

end Go.Proofs.Yteemomncbcpdjaa.P
