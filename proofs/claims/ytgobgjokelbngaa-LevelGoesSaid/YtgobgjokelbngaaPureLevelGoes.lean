/- LevelGoes: a month, many months, each month: the program's answers are the reference's; for every input. -/
import Derived.Test.YtgobgjokelbngaaPx38
import Derived.Test.YtgobgjokelbngaaLevelEv
namespace Go.Proofs.Ytgobgjokelbngaa.Pure
set_option linter.unusedVariables false
open Go.RowKit Go.Proofs.Ytgobgjokelbngaa.P Go.Proofs.YtgobgjokelbngaaW.PrintWords Go.Proofs.YtgobgjokelbngaaW.PrintLast Go.Proofs.YtgobgjokelbngaaW.PrintMore Go.Proofs.Ytgobgjokelbngaa.PlainM Go.Proofs.Ytgobgjokelbngaa.PlainL
theorem level_Month_is {b pay r : Int} (k : Nat) (hk : 40 ≤ k) : level_Month.f k b pay r = some (if May b pay r 0 then monthS b pay r else (0, 1)) := by
  unfold level_Month.f
  rw [level_may_is]
  simp only [obind]
  by_cases h : May b pay r 0
  · rw [if_pos (decide_eq_true h), if_pos h, level_month_is k hk h.1 h.2.1 h.2.2.1]; rfl
  · rw [if_neg (by simpa using h), if_neg h]
theorem tab_len {pay r : Int} : ∀ (d : Nat) (b : Int) (acc : List Int), (tabS pay r d b acc).1.length ≤ acc.length + d
  | 0, b, acc => Nat.le_refl _
  | d + 1, b, acc => by
    unfold tabS
    split
    · have := tab_len (pay := pay) (r := r) d (monthS b pay r).1 (acc ++ [(monthS b pay r).1])
      rw [List.length_append, List.length_singleton] at this
      omega
    · simp
theorem LevelGoes : annuitylaw15_LevelGoes.Pure := by
  intro b pay r m hb hp hr hm
  obtain ⟨k, hk⟩ : ∃ k : Nat, 700 ≤ k := ⟨_, Nat.le_refl _⟩
  refine ⟨k, ?_⟩
  unfold annuitylaw15_LevelGoes.f
  rw [level_Month_is k (by omega), ref_Month_is k (by omega), level_Left_is k (by omega), ref_Left_is k (by omega), level_Table_is k (by omega), ref_Table_is k (by omega), wakes15 k (by omega)]
  simp only [obind, if_true]
  rw [keep_Longs_same]
  · simp only [obind, if_true]
  · split
    · have := tab_len (pay := pay) (r := r) m.toNat b []; rename_i h; have := h.2.2.2; simp at *; omega
    · simp
  · split
    · have := tab_len (pay := pay) (r := r) m.toNat b []; rename_i h; have := h.2.2.2; simp at *; omega
    · simp; omega
end Go.Proofs.Ytgobgjokelbngaa.Pure
