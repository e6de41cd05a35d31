/- MoneyRounds: down is not above even, even not above up, up at most one more than down; they are one just where nothing is left over; for every input. -/
import Derived.Test.YteeajbnpbagjlaaPx9
import Derived.Test.YteeajbnpbagjlaaMoneyLaws
namespace Go.Proofs.Yteeajbnpbagjlaa.Pure
set_option linter.unusedVariables false
open Go.RowKit Go.Proofs.Yteeajbnpbagjlaa.P Go.Proofs.YteeajbnpbagjlaaW.PrintWords Go.Proofs.YteeajbnpbagjlaaW.PrintLast Go.Proofs.YteeajbnpbagjlaaW.PrintMore Go.Proofs.Yteeajbnpbagjlaa.PlainM
theorem MoneyRounds : annuitylaw01_MoneyRounds.Pure := by
  intro a b c ha hb hc
  obtain ⟨k, hk⟩ : ∃ k : Nat, 100 ≤ k := ⟨_, Nat.le_refl _⟩
  refine ⟨k, ?_⟩
  have ha := wfu32 ha; have hb := wfu32 hb; have hc := wfu16 hc
  unfold annuitylaw01_MoneyRounds.f
  rw [tmod_nn hb.1, w64 (e := a) (by omega) (by omega), w64 (e := b % 1000) (by omega) (by omega), w64 (e := c) (by omega) (by omega), w64 (e := c + 1) (by omega) (by omega)]
  obtain ⟨m, hm, m0, m1⟩ : ∃ m, b % 1000 = m ∧ 0 ≤ m ∧ m ≤ 999 := ⟨_, rfl, by omega, by omega⟩
  obtain ⟨d, hd, d0, d1⟩ : ∃ d, c + 1 = d ∧ 1 ≤ d ∧ d ≤ 65536 := ⟨_, rfl, by omega, by omega⟩
  rw [hm, hd]
  have hp0 := Int.mul_nonneg ha.1 m0
  have hp1 : a * m ≤ 4294967295 * 999 := Int.mul_le_mul ha.2 m1 m0 (by omega)
  rw [money_MulDiv_is a m d 0 k (by omega) (by omega) (by omega) (by omega), money_MulDiv_is a m d 2 k (by omega) (by omega) (by omega) (by omega), money_MulDiv_is a m d 1 k (by omega) (by omega) (by omega) (by omega)]
  rw [mdS_rq a m d 0 ha.1 m0 (by omega) (by omega) (by omega) (by omega), mdS_rq a m d 2 ha.1 m0 (by omega) (by omega) (by omega) (by omega), mdS_rq a m d 1 ha.1 m0 (by omega) (by omega) (by omega) (by omega)]
  simp only [obind, if_true]
  rw [rq0, rq1, rq2, wakes01 k (by omega)]
  have g := qr (a * m) d (by omega)
  have hq0 : 0 ≤ a * m / d := Int.ediv_nonneg hp0 (by omega)
  have hq1 := Int.ediv_le_self d hp0
  have hqd : 0 ≤ a * m / d * d := Int.mul_nonneg hq0 (by omega)
  rw [w64 (e := a * m) (by omega) (by omega), tmod_nn hp0]
  generalize a * m = p at *
  rw [w64 (e := p / d * d) (by omega) (by omega), w64 (e := p - p / d * d) (by omega) (by omega)]
  generalize p / d * d = z at *
  generalize p / d = q at *
  generalize p % d = r at *
  have e1 : wrap64 ((if r > 0 then q + 1 else q) - q) = (if r > 0 then 1 else 0) := by
    rw [w64 (by split <;> omega) (by split <;> omega)]; split <;> omega
  rw [e1]
  rw [if_pos (by split <;> omega), if_pos (by split <;> split <;> omega), if_pos (by split <;> omega), if_neg (by omega)]
  have e2 : ((q == (if r > 0 then q + 1 else q)) == (r == 0)) = true := by
    by_cases h : r > 0
    · rw [if_pos h]
      have h1 : (q == q + 1) = false := by simp; omega
      have h2 : (r == 0) = false := by simp; omega
      rw [h1, h2]; rfl
    · rw [if_neg h]
      have h2 : (r == 0) = true := by simp; omega
      rw [h2, beq_self_eq_true]; rfl
  rw [if_pos e2, if_pos (by omega), if_pos (by omega)]
  rfl
end Go.Proofs.Yteeajbnpbagjlaa.Pure
