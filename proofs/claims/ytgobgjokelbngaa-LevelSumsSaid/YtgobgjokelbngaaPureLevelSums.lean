/- LevelSums: all instalments together are no less than what was owed, and, without interest, not a month's cents more; for every input. -/
import Derived.Test.YtgobgjokelbngaaPx35
import Derived.Test.YtgobgjokelbngaaLevelEv
namespace Go.Proofs.Ytgobgjokelbngaa.Pure
set_option linter.unusedVariables false
open Go.RowKit Go.Proofs.Ytgobgjokelbngaa.P Go.Proofs.YtgobgjokelbngaaW.PrintWords Go.Proofs.YtgobgjokelbngaaW.PrintLast Go.Proofs.YtgobgjokelbngaaW.PrintMore Go.Proofs.Ytgobgjokelbngaa.PlainM Go.Proofs.Ytgobgjokelbngaa.PlainL
theorem sums_least {b r n : Int} (hb : 0 ≤ b ∧ b ≤ 4294967295) (hr : 0 ≤ r ∧ r ≤ 65535) (hn : 1 ≤ n ∧ n ≤ 360) : ∃ p, Least b r n.toNat p := by
  apply Least_exists
  obtain ⟨d, hd⟩ : ∃ d, n.toNat = d + 1 := ⟨n.toNat - 1, by omega⟩
  have i0 := inter_nn hb.1 hr.1
  have i1 := inter_le hb.1 (by omega) hr.1 (by omega)
  unfold En
  rw [hd]
  unfold leftS
  have : monthS b 10000000000000 r = (0, 0) := by unfold monthS; rw [if_neg (by omega), if_pos (by omega)]
  rw [this, if_pos rfl]
  exact left_zero (by omega) d
theorem LevelSums : annuitylaw15_LevelSums.Pure := by
  intro b r c hb hr hc
  have hb := wfu32 hb; have hr := wfu16 hr; have hc := wfu16 hc
  obtain ⟨k, hk⟩ : ∃ k : Nat, 700 ≤ k := ⟨_, Nat.le_refl _⟩
  refine ⟨k, ?_⟩
  unfold annuitylaw15_LevelSums.f
  rw [w64 (e := b) (by omega) (by omega), w64 (e := r) (by omega) (by omega), w64 (e := c) (by omega) (by omega), Int.tmod_eq_emod_of_nonneg (by omega), w64 (e := 1 + c % 360) (by omega) (by omega)]
  have hn : 1 ≤ 1 + c % 360 ∧ 1 + c % 360 ≤ 360 := by omega
  generalize 1 + c % 360 = n at *
  have m1 : May b 0 r n := ⟨by omega, by omega, by omega, by omega⟩
  have m2 : May b 0 0 n := ⟨by omega, by omega, by omega, by omega⟩
  obtain ⟨p, hp⟩ := sums_least hb hr hn
  obtain ⟨q, hq⟩ := sums_least (r := 0) hb (by omega) hn
  obtain ⟨v, e, hs, hf⟩ := Of_both b r n
  obtain ⟨v', e', hs', hf'⟩ := Of_both b 0 n
  obtain ⟨rfl, rfl⟩ := hs.one (.least p m1 (by omega) hp)
  obtain ⟨rfl, rfl⟩ := hs'.one (.least q m2 (by omega) hq)
  rw [hf k (by omega), hf' k (by omega), wakes15 k (by omega)]
  simp only [obind, if_true]
  have p0 := hp.nn; have p1 := hp.le; have q0 := hq.nn; have q1 := hq.le
  have pe : leftS v r n.toNat b = (0, 0) := hp.en
  have qe : leftS v' 0 n.toNat b = (0, 0) := hq.en
  have s1 := left_ge p0 hr.1 n.toNat b hb.1 (by rw [pe])
  have s2 := left_ge q0 (Int.le_refl 0) n.toNat b hb.1 (by rw [qe])
  rw [pe, Int.toNat_of_nonneg (by omega), Int.mul_comm] at s1
  rw [qe, Int.toNat_of_nonneg (by omega), Int.mul_comm] at s2
  have s3 : v' ≤ v := (least_iff hb.1 (by omega) (by omega) hq p0).1 (En_mono hb.1 (Int.le_refl _) (by omega) (Int.le_refl _) hr.1 p0 (Int.le_refl _) hp.en)
  have s4 : v' * n < b + n := by
    by_cases c : v' = 0
    · rw [c, Int.zero_mul]; omega
    · have hN : ¬ leftS (v' - 1) 0 n.toNat b = (0, 0) := hq.least (v' - 1) (by omega) (by omega)
      rw [left_plain (by omega) n.toNat b hb.1 (by omega), Int.toNat_of_nonneg (by omega), Int.mul_sub, Int.mul_one, Int.mul_comm] at hN
      by_cases cc : b - (v' * n - n) < 0
      · rw [if_pos cc] at hN; exact absurd rfl hN
      · rw [if_neg cc] at hN
        by_cases c3 : b - (v' * n - n) = 0
        · rw [c3] at hN; exact absurd rfl hN
        · omega
  have b1 : v * n ≤ 10000000000000 * 360 := Int.mul_le_mul p1 hn.2 (by omega) (by omega)
  have b2 : 0 ≤ v * n := Int.mul_nonneg p0 (by omega)
  have b3 : 0 ≤ v' * n := Int.mul_nonneg q0 (by omega)
  generalize v * n = x at *
  generalize v' * n = y at *
  simp only at s1 s2
  rw [w64 (e := x) (by omega) (by omega), w64 (e := y) (by omega) (by omega), w64 (e := b + n) (by omega) (by omega)]
  rw [if_pos (by omega), if_pos (by omega), if_pos (by omega), if_pos (by omega)]
end Go.Proofs.Ytgobgjokelbngaa.Pure
