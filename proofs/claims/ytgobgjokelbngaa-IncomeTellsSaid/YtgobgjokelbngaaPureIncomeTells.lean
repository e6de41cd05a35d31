/- IncomeTells: whether a table is good, the line, what is free, what is asked: the program's answers are the reference's; for every input. -/
import Derived.Test.YtgobgjokelbngaaPx17
import Derived.Test.YtgobgjokelbngaaIncomeEv
namespace Go.Proofs.Ytgobgjokelbngaa.Pure
set_option linter.unusedVariables false
open Go.RowKit Go.Proofs.Ytgobgjokelbngaa.P Go.Proofs.YtgobgjokelbngaaW.PrintWords Go.Proofs.YtgobgjokelbngaaW.PrintLast Go.Proofs.YtgobgjokelbngaaW.PrintMore Go.Proofs.Ytgobgjokelbngaa.PlainM
theorem IncomeTells : annuitylaw17_IncomeTells.Pure := by
  intro l n x hl0 hl1 hl hn hx
  obtain ⟨k, hk⟩ : ∃ k : Nat, 400 ≤ k := ⟨_, Nat.le_refl _⟩
  refine ⟨k, ?_⟩
  unfold annuitylaw17_IncomeTells.f
  rw [wakes17 k (by omega)]
  by_cases c : (l.length : Int) > 100
  · rw [if_pos c]; rfl
  · rw [if_neg c]
    simp only [obind, List.nil_append, List.length_nil, Nat.zero_add]
    rw [if_pos (by omega), income_Line_is l n k (by omega) (by omega), ref_Line_is l n k (by omega) (by omega), income_Free_is l n x k (by omega) (by omega), ref_Free_is l n x k (by omega) (by omega), income_Ask_is l n x k (by omega) (by omega), ref_Ask_is l n x k (by omega) (by omega), income_Good_is l k (by omega) (by omega), ref_TGood_is l k (by omega) (by omega), keep_Longs_same l k (by omega) (by omega)]
    simp only [obind, beq_self_eq_true, if_true]
end Go.Proofs.Ytgobgjokelbngaa.Pure
