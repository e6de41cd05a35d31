/- A part of a proof. -/
import Derived.Test.YteemomncbcpdjaaPx0
namespace Go.Proofs.Yteemomncbcpdjaa.P
open Go.RowKit W.PrintWords W.PrintLast W.PrintMore
attribute [local go_sem] qZs qZq qZ5 qZ6 qZk qZl qZt qZp
set_option linter.unusedVariables false
set_option linter.unusedSimpArgs false
-- NOT PRINTED: function 19 (pay_All_1)
-- NOT PRINTED: function 23 (qX0)
def qZb.f (a0 : Int) : Option (Int) := if a0 ≤ 9223372036854775807 then some (if a0 < 0 then 0 else a0 / 1000000) else none
set_option maxHeartbeats 8000000 in
set_option maxRecDepth 100000 in
theorem qZb.calls (a0 : Int) (r : Int) (w : World) (h : qZb.f a0 = some r) :
  Calls Try.prog 25 #[.int .i64 a0] w fun e w' => e = .returned (.int .i64 r) ∧ Drawn0 w w' := by
 have hb : a0 ≤ 9223372036854775807 := by
  by_cases c : a0 ≤ 9223372036854775807
  ·exact c
  ·rw [qZb.f, if_neg c] at h; cases h
 rw [qZb.f, if_pos hb] at h
 obtain rfl := Option.some.inj h
 clear h
 by_cases c : a0 < 0
 ·have c1 : decide (a0 < 0) = true := decide_eq_true c
  rw [if_pos c]
  go_enter Try.func25, Try.ntmps25
  go_wp2
  go_ret
  refine ⟨?_, Drawn0.refl _⟩
  simp [c]
 ·have c1 : decide (a0 < 0) = false := decide_eq_false c
  rw [if_neg c]
  go_enter Try.func25, Try.ntmps25
  go_wp2
  go_ret
  refine ⟨?_, Drawn0.refl _⟩
  simp [c]
-- NOT PRINTED: function 57 (slices_IndexFunc_int64_int64)
-- NOT PRINTED: function 52 (slices_ContainsFunc_int64_int64)
-- NOT PRINTED: function 53 (share_good_1)
-- NOT PRINTED: function 43 (qQ9)
end Go.Proofs.Yteemomncbcpdjaa.P
