/- LevelLeast: the payment leaves nothing, one cent less leaves something; for every input. -/
import Derived.Test.YtgobgjokelbngaaPx33
import Derived.Test.YtgobgjokelbngaaLevelEv
namespace Go.Proofs.Ytgobgjokelbngaa.Pure
set_option linter.unusedVariables false
open Go.RowKit Go.Proofs.Ytgobgjokelbngaa.P Go.Proofs.YtgobgjokelbngaaW.PrintWords Go.Proofs.YtgobgjokelbngaaW.PrintLast Go.Proofs.YtgobgjokelbngaaW.PrintMore Go.Proofs.Ytgobgjokelbngaa.PlainM Go.Proofs.Ytgobgjokelbngaa.PlainL
theorem LevelLeast : annuitylaw15_LevelLeast.Pure := by
  intro b r m hb hr hm
  obtain ⟨k, hk⟩ : ∃ k : Nat, 700 ≤ k := ⟨_, Nat.le_refl _⟩
  refine ⟨k + 1, ?_⟩
  obtain ⟨v, e, hs, hf⟩ := Of_both b r m
  unfold annuitylaw15_LevelLeast.f
  simp only [annuitylaw15_LevelLeast.j0]
  rw [hf (k + 1) (by omega), wakes15 k (by omega), wakes15 (k + 1) (by omega)]
  simp only [obind]
  cases hs with
  | bad h => rw [if_neg (by omega), if_pos rfl]
  | none a h1 hn => rw [if_neg (by omega), if_pos rfl]
  | least p a h1 hl =>
    have hE : leftS v r m.toNat b = (0, 0) := hl.en
    have h0 := hl.nn
    have h2 := hl.le
    rw [if_pos rfl, ref_Left_is (k + 1) (by omega), if_pos (show May b v r m from ⟨a.1, ⟨h0, h2⟩, a.2.2⟩)]
    simp only [obind]
    rw [hE, if_pos rfl, if_pos rfl, decide_eq_false (by omega), if_neg (by simp)]
    by_cases c : v = 0
    · rw [if_pos c]
      have hz : b = 0 := by
        subst c
        have := left_ge (pay := 0) (r := r) (by omega) a.2.2.1.1 m.toNat b a.1.1 (by rw [hE])
        rw [hE, Int.mul_zero] at this
        have := a.1.1
        simp at *
        omega
      rw [if_pos hz]
    · rw [if_neg c, w64 (by omega) (by omega), ref_Left_is k (by omega), if_pos (show May b (v - 1) r m from ⟨a.1, by omega, a.2.2⟩)]
      simp only [obind]
      have hN : ¬ leftS (v - 1) r m.toNat b = (0, 0) := hl.least (v - 1) (by omega) (by omega)
      have hB := leftS_bd (pay := v - 1) (r := r) (by omega) m.toNat b a.1.1 a.1.2
      by_cases c2 : (leftS (v - 1) r m.toNat b).2 = 0
      · have : (leftS (v - 1) r m.toNat b).1 ≠ 0 := fun x => hN (Prod.ext x c2)
        rw [if_pos c2, if_pos (by omega)]
      · rw [if_neg c2]
end Go.Proofs.Ytgobgjokelbngaa.Pure
