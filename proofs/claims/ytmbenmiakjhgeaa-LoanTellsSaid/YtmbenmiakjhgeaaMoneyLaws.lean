/- The money functions' own check, and how rounded quotients compare, in plain numbers; for every number that is meant. -/

import Derived.Test.YtmbenmiakjhgeaaMoneyEv
namespace Go.Proofs.Ytmbenmiakjhgeaa.Pure
set_option linter.unusedVariables false
open Go.RowKit Go.Proofs.Ytmbenmiakjhgeaa.P Go.Proofs.YtmbenmiakjhgeaaW.PrintWords Go.Proofs.YtmbenmiakjhgeaaW.PrintLast Go.Proofs.YtmbenmiakjhgeaaW.PrintMore Go.Proofs.Ytmbenmiakjhgeaa.PlainM
theorem mn_is (a b : Int) : mn a b = if a ≤ b then a else b := by unfold mn; split <;> split <;> omega
theorem mx_is (a b : Int) : mx a b = if a ≤ b then b else a := by unfold mx; split <;> split <;> omega
/-- A quotient rounded, where it is money for sure. -/
def rq (p d how : Int) : Int := if more how (p % d) d (p / d) = true then p / d + 1 else p / d
theorem mdS_rq (a b d how : Int) (ha : 0 ≤ a) (hb : 0 ≤ b) (hd : 0 < d) (h0 : 0 ≤ how) (h2 : how ≤ 2) (hp : a * b ≤ 9999999999999) : mdS a b d how = (rq (a * b) d how, 0) := by
  have hn := Int.mul_nonneg ha hb
  have hle := Int.ediv_le_self d hn
  unfold mdS rq roundS
  rw [if_neg (by omega), if_neg (by omega)]
  split
  · rw [if_neg (by omega)]
  · rfl
theorem more0 (r d q : Int) : more 0 r d q = false := by unfold more; rw [if_neg (by omega), if_neg (by omega)]
theorem more1 (r d q : Int) : more 1 r d q = decide (r > 0) := by unfold more; rw [if_pos rfl]
theorem more2 (r d q : Int) : more 2 r d q = decide (r > d - r ∨ r = d - r ∧ q % 2 = 1) := by
  unfold more; rw [if_neg (by omega), if_pos rfl]
  by_cases h : r > d - r
  · rw [if_pos h]; simp [h]
  · rw [if_neg h]
    by_cases h1 : r = d - r
    · rw [if_pos h1]; by_cases h2 : q % 2 = 1 <;> simp [h2] <;> omega
    · rw [if_neg h1]; simp [h1]; omega
theorem rq0 (p d : Int) : rq p d 0 = p / d := by unfold rq; rw [more0, if_neg (by simp)]
theorem rq1 (p d : Int) : rq p d 1 = if p % d > 0 then p / d + 1 else p / d := by
  unfold rq; rw [more1]; by_cases h : p % d > 0
  · rw [if_pos (decide_eq_true h), if_pos h]
  · rw [if_neg (by simpa using h), if_neg h]
theorem rq2 (p d : Int) : rq p d 2 = if p % d > d - p % d ∨ p % d = d - p % d ∧ p / d % 2 = 1 then p / d + 1 else p / d := by
  unfold rq; rw [more2]; by_cases h : p % d > d - p % d ∨ p % d = d - p % d ∧ p / d % 2 = 1
  · rw [if_pos (decide_eq_true h), if_pos h]
  · rw [if_neg (by simpa using h), if_neg h]
theorem qr (p d : Int) (hd : 0 < d) : p % d + p / d * d = p ∧ 0 ≤ p % d ∧ p % d < d := by
  have := Int.emod_add_mul_ediv p d
  rw [Int.mul_comm] at this
  exact ⟨this, Int.emod_nonneg _ (by omega), Int.emod_lt_of_pos _ hd⟩
theorem how_cases {how : Int} (h0 : 0 ≤ how) (h2 : how ≤ 2) : how = 0 ∨ how = 1 ∨ how = 2 := by omega
/-- Of more there is no less. -/
theorem rq_more (p p' d how : Int) (hd : 0 < d) (h0 : 0 ≤ how) (h2 : how ≤ 2) (h : p ≤ p') : rq p d how ≤ rq p' d how := by
  have a := qr p d hd; have b := qr p' d hd
  have hq : p / d ≤ p' / d := Int.ediv_le_ediv hd h
  by_cases e : p / d = p' / d
  · rw [e] at a
    rcases how_cases h0 h2 with rfl | rfl | rfl
    · rw [rq0, rq0]; exact hq
    · rw [rq1, rq1, e]; generalize p' / d * d = z at *; split <;> split <;> omega
    · rw [rq2, rq2, e]; generalize p' / d * d = z at *; split <;> split <;> omega
  · rcases how_cases h0 h2 with rfl | rfl | rfl
    · rw [rq0, rq0]; exact hq
    · rw [rq1, rq1]; split <;> split <;> omega
    · rw [rq2, rq2]; split <;> split <;> omega
/-- By a greater divisor there is no more. -/
theorem rq_less (p d e how : Int) (hp : 0 ≤ p) (hd : 0 < d) (he : d ≤ e) (h0 : 0 ≤ how) (h2 : how ≤ 2) : rq p e how ≤ rq p d how := by
  have a := qr p d hd; have b := qr p e (by omega)
  have hq0 : 0 ≤ p / e := Int.ediv_nonneg hp (by omega)
  have hq : p / e ≤ p / d := by
    apply (quo_iff hd).2
    have := Int.mul_le_mul_of_nonneg_left he hq0
    omega
  by_cases c : p / e = p / d
  · rw [c] at b hq0
    have m := Int.mul_le_mul_of_nonneg_left he hq0
    rcases how_cases h0 h2 with rfl | rfl | rfl
    · rw [rq0, rq0]; exact hq
    · rw [rq1, rq1, c]; generalize p / d * d = z at *; generalize p / d * e = y at *; split <;> split <;> omega
    · rw [rq2, rq2, c]; generalize p / d * d = z at *; generalize p / d * e = y at *; split <;> split <;> omega
  · rcases how_cases h0 h2 with rfl | rfl | rfl
    · rw [rq0, rq0]; exact hq
    · rw [rq1, rq1]; split <;> split <;> omega
    · rw [rq2, rq2]; split <;> split <;> omega
/-- In parts, rounded down, never more than at once, and one less at the most. -/
theorem parts_down (p q d : Int) (hd : 0 < d) : p / d + q / d ≤ (p + q) / d ∧ (p + q) / d ≤ p / d + q / d + 1 := by
  have a := qr p d hd; have b := qr q d hd
  constructor
  · apply (quo_iff hd).2
    rw [Int.add_mul]; omega
  · have : (p + q) / d < p / d + q / d + 2 := by
      apply (Int.ediv_lt_iff_lt_mul hd).2
      rw [Int.add_mul, Int.add_mul]; omega
    omega
end Go.Proofs.Ytmbenmiakjhgeaa.Pure
