/- What the calendar's functions that bills reach come to, in plain numbers. -/
import Derived.Test.YtibjbgfphhmogaaPx2
import Derived.Test.YtibjbgfphhmogaaPx5
import Derived.Test.YtibjbgfphhmogaaPx7
import Derived.Test.YtibjbgfphhmogaaPx9
import Derived.Test.YtibjbgfphhmogaaPlainDate
namespace Go.Proofs.Ytibjbgfphhmogaa.Pure
open Go.RowKit Go.Proofs.Ytibjbgfphhmogaa.P Go.Proofs.YtibjbgfphhmogaaW.PrintWords Go.Proofs.YtibjbgfphhmogaaW.PrintLast Go.Proofs.YtibjbgfphhmogaaW.PrintMore Go.Proofs.Ytibjbgfphhmogaa.Plain

theorem date_Long_is (y : Int) : date_Long.f y = some (lg y) := by
  unfold date_Long.f lg
  simp only [tmod_zero]
  by_cases h : y % 4 = 0
  · rw [if_pos h]
    by_cases h1 : y % 100 = 0
    · rw [if_pos h1]
      by_cases h2 : y % 400 = 0
      · simp [h, h1, h2, (tmod_zero y 400).2 h2]
      · have : ¬ Int.tmod y 400 = 0 := fun e => h2 ((tmod_zero y 400).1 e)
        simp [h, h1, h2, this]
    · rw [if_neg h1]; simp [h, h1]
  · rw [if_neg h]
    have : ¬ y % 400 = 0 := by omega
    simp [h, this]
theorem ref_Long_is (y : Int) : annuityref04_Long.f y = some (lg y) := by
  unfold annuityref04_Long.f lg
  simp only [tmod_zero]
  have e400 : (Int.tmod y 400 == 0) = decide (y % 400 = 0) := by
    by_cases h2 : y % 400 = 0
    · simp [h2, (tmod_zero y 400).2 h2]
    · have : ¬ Int.tmod y 400 = 0 := fun e => h2 ((tmod_zero y 400).1 e)
      simp [h2, this]
  rw [e400]
  by_cases h : y % 4 = 0
  · rw [if_pos h]
    by_cases h1 : y % 100 = 0
    · rw [if_pos h1]; simp [h, h1]
    · rw [if_neg h1]; simp [h, h1]
  · rw [if_neg h]; simp [h]
theorem m_cases {m : Int} (h : ¬ m < 1) (h' : ¬ m > 12) : m = 1 ∨ m = 2 ∨ m = 3 ∨ m = 4 ∨ m = 5 ∨ m = 6 ∨ m = 7 ∨ m = 8 ∨ m = 9 ∨ m = 10 ∨ m = 11 ∨ m = 12 := by omega
theorem date_Days_is (y m : Int) : date_Days.f y m = some (dd y m) := by
  unfold date_Days.f dd
  rw [date_Long_is]
  simp only [obind]
  by_cases h1 : m < 1
  · rw [if_pos h1, if_pos h1]
  by_cases h2 : m > 12
  · rw [if_neg h1, if_neg h1, if_pos h2, if_pos h2]
  rcases m_cases h1 h2 with rfl | rfl | rfl | rfl | rfl | rfl | rfl | rfl | rfl | rfl | rfl | rfl <;> cases lg y <;> rfl
theorem ref_Days_is (k : Nat) (y m : Int) (hk : 3 ≤ k) : annuityref04_Days.f k y m = some (dd y m) := by
  obtain ⟨k, rfl⟩ : ∃ j, k = j + 2 := ⟨k - 2, by omega⟩
  unfold annuityref04_Days.f
  simp only [annuityref04_Days.j0, annuityref04_Days.j1, ref_Long_is, obind]
  unfold dd
  by_cases h1 : m < 1
  · rw [if_pos h1]
    have e : ∀ j : Int, 1 ≤ j → ¬ m = j := fun j hj => by omega
    simp [e]
  by_cases h2 : m > 12
  · rw [if_neg h1, if_pos h2]
    have e : ∀ j : Int, j ≤ 12 → ¬ m = j := fun j hj => by omega
    simp [e]
  rcases m_cases h1 h2 with rfl | rfl | rfl | rfl | rfl | rfl | rfl | rfl | rfl | rfl | rfl | rfl <;> cases lg y <;> rfl
theorem date_years_is (y : Int) (h : 1960 ≤ y) (h' : y ≤ 2200) : date_years.f y = some (yr y) := by
  unfold date_years.f date_years.longs yr
  simp (disch := omega) only [w64, tdiv_nn]
  rfl
theorem yr_up (y : Int) (h : 1960 ≤ y) (h' : y ≤ 2200) : 0 ≤ yr y ∧ yr y ≤ 87659 := by unfold yr; omega
theorem st_lit (n : Nat) : yr (1960 + n) = st (12 * n) := (st_12 n).symm
theorem date_Of_l0_is (n M : Nat) (d : Int) (hn : n < 240) (hM : M < 12) (h1 : 1 ≤ d) (h2 : d ≤ 31) : ∀ (i j k : Nat), j + i = M → i < k →
    date_Of.l0 k (1960 + n) (1 + M) d (st (12 * n + j)) (1 + j) = some (st (12 * n + M) + d - 1, 0) := by
  intro i
  have hs : ∀ j : Nat, j ≤ 12 → 0 ≤ st (12 * n + j) ∧ st (12 * n + j) ≤ 87659 := fun j hj => ⟨st_nn _, st_up _ (by omega)⟩
  induction i with
  | zero =>
    intro j k hj hk
    obtain ⟨k, rfl⟩ : ∃ m, k = m + 1 := ⟨k - 1, by omega⟩
    obtain rfl : j = M := by omega
    have := hs j (by omega)
    simp only [date_Of.l0]
    rw [if_neg (by omega)]
    simp (disch := omega) only [w64]
  | succ i ih =>
    intro j k hj hk
    obtain ⟨k, rfl⟩ : ∃ m, k = m + 1 := ⟨k - 1, by omega⟩
    have a := hs j (by omega); have b := hs (j + 1) (by omega)
    have e : st (12 * n + (j + 1)) = st (12 * n + j) + dd (1960 + n) (1 + j) := by rw [← dm_at n j (by omega)]; rfl
    simp only [date_Of.l0]
    rw [if_pos (by omega), date_Days_is]
    simp only [obind]
    rw [← e, w64 (by omega) (by omega), w64 (by omega) (by omega)]
    have := ih (j + 1) k (by omega) (by omega)
    rw [show (1 + (j : Int)) + 1 = 1 + ((j + 1 : Nat) : Int) by omega] 
    exact this
theorem date_Of_ok (n M k : Nat) (d : Int) (hn : n < 240) (hM : M < 12) (h1 : 1 ≤ d) (h2 : d ≤ dd (1960 + n) (1 + M)) (hk : 20 ≤ k) :
    date_Of.f k (1960 + n) (1 + M) d = some (st (12 * n + M) + d - 1, 0) := by
  have := dd_le (1960 + n) (1 + M)
  obtain ⟨k, rfl⟩ : ∃ m, k = m + 1 := ⟨k - 1, by omega⟩
  unfold date_Of.f
  rw [if_neg (by omega), if_neg (by omega), if_neg (by omega), date_Days_is]
  simp only [obind]
  rw [decide_eq_false (by omega)]
  simp only [date_Of.j0]
  rw [if_neg (by simp), date_years_is _ (by omega) (by omega)]
  simp only [obind]
  rw [st_lit]
  have := date_Of_l0_is n M d hn hM h1 (by omega) M 0 k (by omega) (by omega)
  simpa using this
theorem ref_Start_l0 (m : Nat) (hm : m ≤ 2880) : ∀ (i j k : Nat), j + i = m → i + 3 < k → annuityref04_Start.l0 k m (st j) j = some (st m) := by
  intro i
  induction i with
  | zero =>
    intro j k hj hk
    obtain ⟨k, rfl⟩ : ∃ m, k = m + 1 := ⟨k - 1, by omega⟩
    obtain rfl : j = m := by omega
    simp only [annuityref04_Start.l0]
    rw [if_neg (by omega)]
  | succ i ih =>
    intro j k hj hk
    obtain ⟨k, rfl⟩ : ∃ m, k = m + 1 := ⟨k - 1, by omega⟩
    simp only [annuityref04_Start.l0]
    have a := st_nn j; have b := st_up (j + 1) (by omega); have c := st_lt j
    rw [if_pos (by omega), tdiv_nn (by omega), tmod_nn (by omega), w64 (e := (j : Int) / 12) (by omega) (by omega), w64 (e := 1960 + _) (by omega) (by omega), w64 (e := 1 + _) (by omega) (by omega), ref_Days_is _ _ _ (by omega)]
    simp only [obind]
    have e : st j + dd (1960 + (j : Int) / 12) (1 + (j : Int) % 12) = st (j + 1) := rfl
    rw [e, w64 (by omega) (by omega), w64 (by omega) (by omega)]
    exact ih (j + 1) k (by omega) (by omega)
theorem ref_Start_is (m k : Nat) (hm : m ≤ 2880) (hk : 2890 ≤ k) : annuityref04_Start.f k m = some (st m) := by
  unfold annuityref04_Start.f
  exact ref_Start_l0 m hm m 0 k (by omega) (by omega)
theorem date_Good_is (n : Int) : date_Good.f n = some (decide (0 ≤ n ∧ n ≤ 87658)) := by
  unfold date_Good.f
  by_cases h : n ≥ 0
  · rw [if_pos h]; simp [h]
  · rw [if_neg h]; simp; omega
theorem ref_Good_is (n : Int) : annuityref04_Good.f n = some (decide (0 ≤ n ∧ n ≤ 87658)) := by
  unfold annuityref04_Good.f
  by_cases h : n ≥ 0
  · rw [if_pos h]; simp [h]
  · rw [if_neg h]; simp; omega
/-- The date of the day n of the month m. -/
theorem date_First_ok (m k : Nat) (hm : m < 2880) (hk : 20 ≤ k) : date_First.f k m = some (st m, 0) := by
  unfold date_First.f
  rw [if_neg (by omega), if_neg (by omega), tdiv_nn (by omega), tmod_nn (by omega)]
  simp (disch := omega) only [w64]
  have e : 12 * (m / 12) + m % 12 = m := by omega
  have := date_Of_ok (m / 12) (m % 12) k 1 (by omega) (by omega) (by omega) (by have := dd_ge (1960 + ((m / 12 : Nat) : Int)) (1 + ((m % 12 : Nat) : Int)) (by omega) (by omega); omega) hk
  rw [e, show (1960 + ((m / 12 : Nat) : Int)) = 1960 + (m : Int) / 12 by omega, show (1 + ((m % 12 : Nat) : Int)) = (m : Int) % 12 + 1 by omega] at this
  rw [this]
  simp only [obind]
  rw [Int.add_sub_cancel]
theorem date_First_no (m : Int) (k : Nat) (h : m < 0 ∨ 2880 ≤ m) : date_First.f k m = some (0, 15) := by
  unfold date_First.f
  by_cases c : m < 0
  · rw [if_pos c]
  · rw [if_neg c, if_pos (by omega)]
theorem ref_First_ok (m k : Nat) (hm : m < 2880) (hk : 2890 ≤ k) : annuityref04_First.f k m = some (st m, 0) := by
  unfold annuityref04_First.f
  rw [if_neg (by omega), if_neg (by omega), ref_Start_is m k (by omega) hk]
  rfl
theorem ref_First_no (m : Int) (k : Nat) (h : m < 0 ∨ 2880 ≤ m) : annuityref04_First.f k m = some (0, 15) := by
  unfold annuityref04_First.f
  by_cases c : m < 0
  · rw [if_pos c]
  · rw [if_neg c, if_pos (by omega)]
end Go.Proofs.Ytibjbgfphhmogaa.Pure
