/- Functions of the program as plain Lean functions, and proofs that its calls come to just their answers, where they tell one (written by a program of this session). -/
import Derived.Test.YtmbenmiakjhgeaaPx0
namespace Go.Proofs.Ytmbenmiakjhgeaa.P
open Go.RowKit Go.Proofs.YtmbenmiakjhgeaaW.PrintWords Go.Proofs.YtmbenmiakjhgeaaW.PrintLast Go.Proofs.YtmbenmiakjhgeaaW.PrintMore
attribute [local go_sem] max2_int min2_int max_two min_two max_three min_three max_four min_four   -- for this text's walks alone
set_option linter.unusedVariables false
set_option linter.unusedSimpArgs false

-- NOT PRINTED: function 30 (loan_stop)

-- NOT PRINTED: function 54 (loan_does_1)

-- NOT PRINTED: function 28 (loan_does)

-- NOT PRINTED: function 31 (loan_gone)

/-! ### accrue_Whole: function 44 -/
def accrue_Whole.f (a0 : Int) : Option (Int) := if a0 ≤ 9223372036854775807 then some (if a0 < 0 then 0 else a0 / 1000000) else none
set_option maxHeartbeats 8000000 in
set_option maxRecDepth 100000 in
theorem accrue_Whole.calls (a0 : Int) (r : Int) (w : World) (h : accrue_Whole.f a0 = some r) :
    Calls Try.prog 44 #[.int .i64 a0] w fun e w' => e = .returned (.int .i64 r) ∧ Drawn0 w w' := by
  have hb : a0 ≤ 9223372036854775807 := by
    by_cases c : a0 ≤ 9223372036854775807
    · exact c
    · rw [accrue_Whole.f, if_neg c] at h; cases h
  rw [accrue_Whole.f, if_pos hb] at h
  obtain rfl := Option.some.inj h
  clear h
  by_cases c : a0 < 0
  · have c1 : decide (a0 < 0) = true := decide_eq_true c
    rw [if_pos c]
    go_enter Try.func44, Try.ntmps44
    go_wp2
    go_ret
    refine ⟨?_, Drawn0.refl _⟩
    simp [c]
  · have c1 : decide (a0 < 0) = false := decide_eq_false c
    rw [if_neg c]
    go_enter Try.func44, Try.ntmps44
    go_wp2
    go_ret
    refine ⟨?_, Drawn0.refl _⟩
    simp [c]

-- NOT PRINTED: function 69 (money_Sum_1)

-- NOT PRINTED: function 70 (money_add)

end Go.Proofs.Ytmbenmiakjhgeaa.P
