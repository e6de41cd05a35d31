/- What the calendar's functions, the program's and the reference's, come to, in plain numbers, for every number of rounds that is large enough. -/
import Derived.Test.YtgogccjfoclakaaPx4
import Derived.Test.YtgogccjfoclakaaPx6
import Derived.Test.YtgogccjfoclakaaPx7
import Derived.Test.YtgogccjfoclakaaPx8
import Derived.Test.YtgogccjfoclakaaPx9
import Derived.Test.YtgogccjfoclakaaPx10
import Derived.Test.YtgogccjfoclakaaPx13
import Derived.Test.YtgogccjfoclakaaPlainDate
namespace Go.Proofs.Ytgogccjfoclakaa.Pure
open Go.RowKit Go.Proofs.Ytgogccjfoclakaa.P Go.Proofs.YtgogccjfoclakaaW.PrintWords Go.Proofs.YtgogccjfoclakaaW.PrintLast Go.Proofs.YtgogccjfoclakaaW.PrintMore Go.Proofs.Ytgogccjfoclakaa.Plain

theorem date_Long_is (y : Int) : date_Long.f y = some (lg y) := by
  unfold date_Long.f lg
  simp only [tmod_zero]
  by_cases h : y % 4 = 0
  · rw [if_pos h]
    by_cases h1 : y % 100 = 0
    · rw [if_pos h1]
      by_cases h2 : y % 400 = 0
      · simp [h, h1, h2, (tmod_zero y 400).2 h2]
      · have : ¬ Int.tmod y 400 = 0 := fun e => h2 ((tmod_zero y 400).1 e)
        simp [h, h1, h2, this]
    · rw [if_neg h1]; simp [h, h1]
  · rw [if_neg h]
    have : ¬ y % 400 = 0 := by omega
    simp [h, this]
theorem ref_Long_is (y : Int) : annuityref04_Long.f y = some (lg y) := by
  unfold annuityref04_Long.f lg
  simp only [tmod_zero]
  have e400 : (Int.tmod y 400 == 0) = decide (y % 400 = 0) := by
    by_cases h2 : y % 400 = 0
    · simp [h2, (tmod_zero y 400).2 h2]
    · have : ¬ Int.tmod y 400 = 0 := fun e => h2 ((tmod_zero y 400).1 e)
      simp [h2, this]
  rw [e400]
  by_cases h : y % 4 = 0
  · rw [if_pos h]
    by_cases h1 : y % 100 = 0
    · rw [if_pos h1]; simp [h, h1]
    · rw [if_neg h1]; simp [h, h1]
  · rw [if_neg h]; simp [h]
theorem m_cases {m : Int} (h : ¬ m < 1) (h' : ¬ m > 12) : m = 1 ∨ m = 2 ∨ m = 3 ∨ m = 4 ∨ m = 5 ∨ m = 6 ∨ m = 7 ∨ m = 8 ∨ m = 9 ∨ m = 10 ∨ m = 11 ∨ m = 12 := by omega
theorem date_Days_is (y m : Int) : date_Days.f y m = some (dd y m) := by
  unfold date_Days.f dd
  rw [date_Long_is]
  simp only [obind]
  by_cases h1 : m < 1
  · rw [if_pos h1, if_pos h1]
  by_cases h2 : m > 12
  · rw [if_neg h1, if_neg h1, if_pos h2, if_pos h2]
  rcases m_cases h1 h2 with rfl | rfl | rfl | rfl | rfl | rfl | rfl | rfl | rfl | rfl | rfl | rfl <;> cases lg y <;> rfl
theorem ref_Days_is (k : Nat) (y m : Int) (hk : 3 ≤ k) : annuityref04_Days.f k y m = some (dd y m) := by
  obtain ⟨k, rfl⟩ : ∃ j, k = j + 2 := ⟨k - 2, by omega⟩
  unfold annuityref04_Days.f
  simp only [annuityref04_Days.j0, annuityref04_Days.j1, ref_Long_is, obind]
  unfold dd
  by_cases h1 : m < 1
  · rw [if_pos h1]
    have e : ∀ j : Int, 1 ≤ j → ¬ m = j := fun j hj => by omega
    simp [e]
  by_cases h2 : m > 12
  · rw [if_neg h1, if_pos h2]
    have e : ∀ j : Int, j ≤ 12 → ¬ m = j := fun j hj => by omega
    simp [e]
  rcases m_cases h1 h2 with rfl | rfl | rfl | rfl | rfl | rfl | rfl | rfl | rfl | rfl | rfl | rfl <;> cases lg y <;> rfl
theorem date_years_is (y : Int) (h : 1960 ≤ y) (h' : y ≤ 2200) : date_years.f y = some (yr y) := by
  unfold date_years.f date_years.longs yr
  simp (disch := omega) only [w64, tdiv_nn]
  rfl
theorem yr_up (y : Int) (h : 1960 ≤ y) (h' : y ≤ 2200) : 0 ≤ yr y ∧ yr y ≤ 87659 := by unfold yr; omega
theorem st_lit (n : Nat) : yr (1960 + n) = st (12 * n) := (st_12 n).symm
theorem date_Of_l0_is (n M : Nat) (d : Int) (hn : n < 240) (hM : M < 12) (h1 : 1 ≤ d) (h2 : d ≤ 31) : ∀ (i j k : Nat), j + i = M → i < k →
    date_Of.l0 k (1960 + n) (1 + M) d (st (12 * n + j)) (1 + j) = some (st (12 * n + M) + d - 1, 0) := by
  intro i
  have hs : ∀ j : Nat, j ≤ 12 → 0 ≤ st (12 * n + j) ∧ st (12 * n + j) ≤ 87659 := fun j hj => ⟨st_nn _, st_up _ (by omega)⟩
  induction i with
  | zero =>
    intro j k hj hk
    obtain ⟨k, rfl⟩ : ∃ m, k = m + 1 := ⟨k - 1, by omega⟩
    obtain rfl : j = M := by omega
    have := hs j (by omega)
    simp only [date_Of.l0]
    rw [if_neg (by omega)]
    simp (disch := omega) only [w64]
  | succ i ih =>
    intro j k hj hk
    obtain ⟨k, rfl⟩ : ∃ m, k = m + 1 := ⟨k - 1, by omega⟩
    have a := hs j (by omega); have b := hs (j + 1) (by omega)
    have e : st (12 * n + (j + 1)) = st (12 * n + j) + dd (1960 + n) (1 + j) := by rw [← dm_at n j (by omega)]; rfl
    simp only [date_Of.l0]
    rw [if_pos (by omega), date_Days_is]
    simp only [obind]
    rw [← e, w64 (by omega) (by omega), w64 (by omega) (by omega)]
    have := ih (j + 1) k (by omega) (by omega)
    rw [show (1 + (j : Int)) + 1 = 1 + ((j + 1 : Nat) : Int) by omega] 
    exact this
theorem date_Of_ok (n M k : Nat) (d : Int) (hn : n < 240) (hM : M < 12) (h1 : 1 ≤ d) (h2 : d ≤ dd (1960 + n) (1 + M)) (hk : 20 ≤ k) :
    date_Of.f k (1960 + n) (1 + M) d = some (st (12 * n + M) + d - 1, 0) := by
  have := dd_le (1960 + n) (1 + M)
  obtain ⟨k, rfl⟩ : ∃ m, k = m + 1 := ⟨k - 1, by omega⟩
  unfold date_Of.f
  rw [if_neg (by omega), if_neg (by omega), if_neg (by omega), date_Days_is]
  simp only [obind]
  rw [decide_eq_false (by omega)]
  simp only [date_Of.j0]
  rw [if_neg (by simp), date_years_is _ (by omega) (by omega)]
  simp only [obind]
  rw [st_lit]
  have := date_Of_l0_is n M d hn hM h1 (by omega) M 0 k (by omega) (by omega)
  simpa using this
theorem date_Of_no (y m d : Int) (k : Nat) (h : y < 1960 ∨ 2199 < y ∨ d < 1 ∨ dd y m < d) (hk : 20 ≤ k) : date_Of.f k y m d = some (0, 15) := by
  obtain ⟨k, rfl⟩ : ∃ m, k = m + 1 := ⟨k - 1, by omega⟩
  unfold date_Of.f
  simp only [date_Of.j0, date_Days_is, Option.bind_some, if_true]
  by_cases h1 : y < 1960
  · rw [if_pos h1]
  by_cases h2 : y > 2199
  · rw [if_neg h1, if_pos h2]
  by_cases h3 : d < 1
  · rw [if_neg h1, if_neg h2, if_pos h3]
  rw [if_neg h1, if_neg h2, if_neg h3]
  have : decide (d > dd y m) = true := decide_eq_true (by omega)
  rw [this, if_pos rfl]
theorem ref_Start_l0 (m : Nat) (hm : m ≤ 2880) : ∀ (i j k : Nat), j + i = m → i + 3 < k → annuityref04_Start.l0 k m (st j) j = some (st m) := by
  intro i
  induction i with
  | zero =>
    intro j k hj hk
    obtain ⟨k, rfl⟩ : ∃ m, k = m + 1 := ⟨k - 1, by omega⟩
    obtain rfl : j = m := by omega
    simp only [annuityref04_Start.l0]
    rw [if_neg (by omega)]
  | succ i ih =>
    intro j k hj hk
    obtain ⟨k, rfl⟩ : ∃ m, k = m + 1 := ⟨k - 1, by omega⟩
    simp only [annuityref04_Start.l0]
    have a := st_nn j; have b := st_up (j + 1) (by omega); have c := st_lt j
    rw [if_pos (by omega), tdiv_nn (by omega), tmod_nn (by omega), w64 (e := (j : Int) / 12) (by omega) (by omega), w64 (e := 1960 + _) (by omega) (by omega), w64 (e := 1 + _) (by omega) (by omega), ref_Days_is _ _ _ (by omega)]
    simp only [obind]
    have e : st j + dd (1960 + (j : Int) / 12) (1 + (j : Int) % 12) = st (j + 1) := rfl
    rw [e, w64 (by omega) (by omega), w64 (by omega) (by omega)]
    exact ih (j + 1) k (by omega) (by omega)
theorem ref_Start_is (m k : Nat) (hm : m ≤ 2880) (hk : 2890 ≤ k) : annuityref04_Start.f k m = some (st m) := by
  unfold annuityref04_Start.f
  exact ref_Start_l0 m hm m 0 k (by omega) (by omega)
theorem ref_Of_ok (n M k : Nat) (d : Int) (hn : n < 240) (hM : M < 12) (h1 : 1 ≤ d) (h2 : d ≤ dd (1960 + n) (1 + M)) (hk : 2890 ≤ k) :
    annuityref04_Of.f k (1960 + n) (1 + M) d = some (st (12 * n + M) + d - 1, 0) := by
  have := dd_le (1960 + n) (1 + M)
  have a := st_nn (12 * n + M); have b := st_up (12 * n + M) (by omega)
  unfold annuityref04_Of.f
  rw [if_neg (by omega), if_neg (by omega), if_neg (by omega), if_neg (by omega), if_neg (by omega), ref_Days_is _ _ _ (by omega)]
  simp only [obind]
  rw [if_neg (by omega)]
  simp (disch := omega) only [w64]
  rw [show 12 * (1960 + (n : Int) - 1960) + (1 + (M : Int)) - 1 = ((12 * n + M : Nat) : Int) by omega, ref_Start_is _ _ (by omega) hk]
  simp only [obind]
  simp (disch := omega) only [w64]
theorem dd_bad (y m : Int) (h : m < 1 ∨ 12 < m) : dd y m = 0 := by unfold dd; rcases h with h | h; · rw [if_pos h]
                                                                   · rw [if_neg (by omega), if_pos h]
theorem ref_Of_no (y m d : Int) (k : Nat) (h : y < 1960 ∨ 2199 < y ∨ d < 1 ∨ dd y m < d) (hk : 2890 ≤ k) : annuityref04_Of.f k y m d = some (0, 15) := by
  unfold annuityref04_Of.f
  simp only [ref_Days_is k y m (by omega), obind]
  by_cases h1 : y < 1960
  · rw [if_pos h1]
  by_cases h2 : y > 2199
  · rw [if_neg h1, if_pos h2]
  rw [if_neg h1, if_neg h2]
  by_cases h4 : m < 1
  · rw [if_pos h4]
  by_cases h5 : m > 12
  · rw [if_neg h4, if_pos h5]
  rw [if_neg h4, if_neg h5]
  by_cases h3 : d < 1
  · rw [if_pos h3]
  rw [if_neg h3, if_pos (by omega)]
/-- A day's number, or 0 and 15. -/
def ofS (y m d : Int) : Int × Int := if y < 1960 ∨ 2199 < y ∨ d < 1 ∨ dd y m < d then (0, 15) else (st (12 * (y - 1960) + m - 1).toNat + d - 1, 0)
theorem of_shape {y m d : Int} (h : ¬ (y < 1960 ∨ 2199 < y ∨ d < 1 ∨ dd y m < d)) : ∃ n M : Nat, y = 1960 + n ∧ m = 1 + M ∧ n < 240 ∧ M < 12 ∧ (12 * (y - 1960) + m - 1).toNat = 12 * n + M := by
  have hm : ¬ (m < 1 ∨ 12 < m) := fun e => by have := dd_bad y m e; omega
  exact ⟨(y - 1960).toNat, (m - 1).toNat, by omega, by omega, by omega, by omega, by omega⟩
theorem date_Of_is (y m d : Int) (k : Nat) (hk : 20 ≤ k) : date_Of.f k y m d = some (ofS y m d) := by
  unfold ofS
  by_cases h : y < 1960 ∨ 2199 < y ∨ d < 1 ∨ dd y m < d
  · rw [if_pos h, date_Of_no y m d k h hk]
  · rw [if_neg h]
    obtain ⟨n, M, rfl, rfl, hn, hM, e⟩ := of_shape h
    rw [e, date_Of_ok n M k d hn hM (by omega) (by omega) hk]
theorem ref_Of_is (y m d : Int) (k : Nat) (hk : 2890 ≤ k) : annuityref04_Of.f k y m d = some (ofS y m d) := by
  unfold ofS
  by_cases h : y < 1960 ∨ 2199 < y ∨ d < 1 ∨ dd y m < d
  · rw [if_pos h, ref_Of_no y m d k h hk]
  · rw [if_neg h]
    obtain ⟨n, M, rfl, rfl, hn, hM, e⟩ := of_shape h
    rw [e, ref_Of_ok n M k d hn hM (by omega) (by omega) hk]
theorem ofS_ok (n M : Nat) (d : Int) (hn : n < 240) (hM : M < 12) (h1 : 1 ≤ d) (h2 : d ≤ dd (1960 + n) (1 + M)) : ofS (1960 + n) (1 + M) d = (st (12 * n + M) + d - 1, 0) := by
  unfold ofS
  rw [if_neg (by omega), show (12 * (1960 + (n : Int) - 1960) + (1 + (M : Int)) - 1).toNat = 12 * n + M by omega]
theorem st_366 (a : Nat) (ha : a ≤ 240) : st (12 * a) ≤ 366 * a := by
  rw [st_12]; unfold yr; omega
theorem date_Good_is (n : Int) : date_Good.f n = some (decide (0 ≤ n ∧ n ≤ 87658)) := by
  unfold date_Good.f
  by_cases h : n ≥ 0
  · rw [if_pos h]; simp [h]
  · rw [if_neg h]; simp; omega
theorem ref_Good_is (n : Int) : annuityref04_Good.f n = some (decide (0 ≤ n ∧ n ≤ 87658)) := by
  unfold annuityref04_Good.f
  by_cases h : n ≥ 0
  · rw [if_pos h]; simp [h]
  · rw [if_neg h]; simp; omega
/-- The date of the day n of the month m. -/
def civ (m : Nat) (n : Int) : Int × Int × Int × Int := (1960 + (m : Int) / 12, 1 + (m : Int) % 12, n - st m + 1, 0)
theorem date_Civil_l1_is (a M : Nat) (n : Int) (ha : a < 240) (hM : M < 12) (h1 : st (12 * a + M) ≤ n) (h2 : n < st (12 * a + M + 1)) : ∀ (i j k : Nat), j + i = M → i < k →
    date_Civil.l1 k (n - st (12 * a + j)) (1960 + a) (1 + j) = some (1960 + (a : Int), 1 + (M : Int), n - st (12 * a + M) + 1, 0) := by
  intro i
  have hu : n < 87659 := by have := st_up (12 * a + M + 1) (by omega); omega
  induction i with
  | zero =>
    intro j k hj hk
    obtain ⟨k, rfl⟩ : ∃ m, k = m + 1 := ⟨k - 1, by omega⟩
    obtain rfl : j = M := by omega
    have e : st (12 * a + j + 1) = st (12 * a + j) + dd (1960 + a) (1 + j) := by rw [← dm_at a j (by omega)]; rfl
    have := st_nn (12 * a + j)
    simp only [date_Civil.l1, date_Days_is, obind]
    rw [if_neg (by omega)]
    simp (disch := omega) only [w64]
  | succ i ih =>
    intro j k hj hk
    obtain ⟨k, rfl⟩ : ∃ m, k = m + 1 := ⟨k - 1, by omega⟩
    have e : st (12 * a + j + 1) = st (12 * a + j) + dd (1960 + a) (1 + j) := by rw [← dm_at a j (by omega)]; rfl
    have := st_nn (12 * a + j)
    have := st_mono (show 12 * a + j + 1 ≤ 12 * a + M by omega)
    have := dd_nn (1960 + a) (1 + j)
    simp only [date_Civil.l1, date_Days_is, obind]
    rw [if_pos (by omega), w64 (by omega) (by omega), w64 (by omega) (by omega)]
    have := ih (j + 1) k (by omega) (by omega)
    rw [show n - st (12 * a + j) - dd (1960 + ↑a) (1 + ↑j) = n - st (12 * a + (j + 1)) by rw [← Nat.add_assoc]; omega, show (1 + (j : Int)) + 1 = 1 + ((j + 1 : Nat) : Int) by omega] 
    exact this
theorem date_Civil_l0_is (m : Nat) (n : Int) (hm : m < 2880) (h1 : st m ≤ n) (h2 : n < st (m + 1)) : ∀ (i a k : Nat), a + i = m / 12 → i + 20 < k →
    date_Civil.l0 k n (1960 + a) = some (civ m n) := by
  have hu : n < 87659 := by have := st_up (m + 1) (by omega); omega
  have hl : 0 ≤ n := by have := st_nn m; omega
  intro i
  induction i with
  | zero =>
    intro a k ha hk
    obtain ⟨k, rfl⟩ : ∃ m, k = m + 2 := ⟨k - 2, by omega⟩
    obtain rfl : a = m / 12 := by omega
    have hj : date_Civil.j1 (k + 1) n (1960 + ((m / 12 : Nat) : Int)) = some (civ m n) := by
      simp only [date_Civil.j1]
      rw [date_years_is _ (by omega) (by omega)]
      simp only [obind]
      rw [st_lit]
      have a := st_nn (12 * (m / 12)); have b := st_mono (show 12 * (m / 12) ≤ m by omega)
      rw [w64 (by omega) (by omega)]
      have e : 12 * (m / 12) + m % 12 = m := by omega
      have := date_Civil_l1_is (m / 12) (m % 12) n (by omega) (by omega) (by rw [e]; exact h1) (by rw [e]; exact h2) (m % 12) 0 k (by omega) (by omega)
      rw [e] at this
      unfold civ
      simpa using this
    simp only [date_Civil.l0]
    by_cases c : 1960 + ((m / 12 : Nat) : Int) < 2199
    · rw [if_pos c, w64 (by omega) (by omega), date_years_is _ (by omega) (by omega)]
      simp only [obind]
      rw [show 1960 + ((m / 12 : Nat) : Int) + 1 = 1960 + ((m / 12 + 1 : Nat) : Int) by omega, st_lit]
      have := st_mono (show m + 1 ≤ 12 * (m / 12 + 1) by omega)
      rw [if_neg (by omega)]
      exact hj
    · rw [if_neg c]; exact hj
  | succ i ih =>
    intro a k ha hk
    obtain ⟨k, rfl⟩ : ∃ m, k = m + 1 := ⟨k - 1, by omega⟩
    simp only [date_Civil.l0]
    rw [if_pos (by omega), w64 (by omega) (by omega), date_years_is _ (by omega) (by omega)]
    simp only [obind]
    rw [show 1960 + (a : Int) + 1 = 1960 + ((a + 1 : Nat) : Int) by omega, st_lit]
    have := st_mono (show 12 * (a + 1) ≤ m by omega)
    rw [if_pos (by omega)]
    exact ih (a + 1) k (by omega) (by omega)
theorem date_Civil_ok (m k : Nat) (n : Int) (hm : m < 2880) (h1 : st m ≤ n) (h2 : n < st (m + 1)) (hk : 300 ≤ k) : date_Civil.f k n = some (civ m n) := by
  have hu : n < 87659 := by have := st_up (m + 1) (by omega); omega
  have hl : 0 ≤ n := by have := st_nn m; omega
  unfold date_Civil.f
  rw [date_Good_is, decide_eq_true (by omega)]
  simp only [obind, if_true]
  rw [tdiv_nn (by omega), w64 (e := n / 366) (by omega) (by omega), w64 (by omega) (by omega)]
  obtain ⟨a, ha⟩ : ∃ a : Nat, n / 366 = a := ⟨(n / 366).toNat, by omega⟩
  rw [ha]
  have h3 := st_366 a (by omega)
  have h4 : a ≤ m / 12 := by
    apply Nat.le_of_not_lt; intro h
    have := st_mono (show m + 1 ≤ 12 * a by omega)
    omega
  exact date_Civil_l0_is m n hm h1 h2 (m / 12 - a) a k (by omega) (by omega)
theorem date_Civil_no (n : Int) (k : Nat) (h : n < 0 ∨ 87658 < n) : date_Civil.f k n = some (0, 0, 0, 15) := by
  unfold date_Civil.f
  rw [date_Good_is, decide_eq_false (by omega)]
  rfl
theorem ref_Civil_l0_is (m : Nat) (n : Int) (hm : m < 2880) (h1 : st m ≤ n) (h2 : n < st (m + 1)) : ∀ (i j k : Nat), j + i = m → i + 5 < k →
    annuityref04_Civil.l0 k (n - st j) j = some (civ m n) := by
  have hu : n < 87659 := by have := st_up (m + 1) (by omega); omega
  have hl : 0 ≤ n := by have := st_nn m; omega
  intro i
  induction i with
  | zero =>
    intro j k hj hk
    obtain ⟨k, rfl⟩ : ∃ m, k = m + 1 := ⟨k - 1, by omega⟩
    obtain rfl : j = m := by omega
    have e : st (j + 1) = st j + dd (1960 + (j : Int) / 12) (1 + (j : Int) % 12) := rfl
    have := st_nn j
    simp only [annuityref04_Civil.l0]
    rw [tdiv_nn (by omega), tmod_nn (by omega), w64 (e := (j : Int) / 12) (by omega) (by omega), w64 (e := 1960 + _) (by omega) (by omega), w64 (e := 1 + _) (by omega) (by omega), ref_Days_is _ _ _ (by omega)]
    simp only [obind]
    rw [if_neg (by omega), w64 (by omega) (by omega)]
    rfl
  | succ i ih =>
    intro j k hj hk
    obtain ⟨k, rfl⟩ : ∃ m, k = m + 1 := ⟨k - 1, by omega⟩
    have e : st (j + 1) = st j + dd (1960 + (j : Int) / 12) (1 + (j : Int) % 12) := rfl
    have := st_nn j
    have := st_mono (show j + 1 ≤ m by omega)
    simp only [annuityref04_Civil.l0]
    rw [tdiv_nn (by omega), tmod_nn (by omega), w64 (e := (j : Int) / 12) (by omega) (by omega), w64 (e := 1960 + _) (by omega) (by omega), w64 (e := 1 + _) (by omega) (by omega), ref_Days_is _ _ _ (by omega)]
    simp only [obind]
    have hd := dd_nn (1960 + (j : Int) / 12) (1 + (j : Int) % 12)
    rw [if_pos (by omega), w64 (by omega) (by omega), w64 (by omega) (by omega), show n - st j - dd (1960 + (j : Int) / 12) (1 + (j : Int) % 12) = n - st (j + 1) by omega]
    exact ih (j + 1) k (by omega) (by omega)
theorem ref_Civil_ok (m k : Nat) (n : Int) (hm : m < 2880) (h1 : st m ≤ n) (h2 : n < st (m + 1)) (hk : 2890 ≤ k) : annuityref04_Civil.f k n = some (civ m n) := by
  have hu : n < 87659 := by have := st_up (m + 1) (by omega); omega
  have hl : 0 ≤ n := by have := st_nn m; omega
  unfold annuityref04_Civil.f
  rw [ref_Good_is, decide_eq_true (by omega)]
  simp only [obind, if_true]
  have := ref_Civil_l0_is m n hm h1 h2 m 0 k (by omega) (by omega)
  simpa [st] using this
theorem ref_Civil_no (n : Int) (k : Nat) (h : n < 0 ∨ 87658 < n) : annuityref04_Civil.f k n = some (0, 0, 0, 15) := by
  unfold annuityref04_Civil.f
  rw [ref_Good_is, decide_eq_false (by omega)]
  rfl
theorem mo_or (n : Int) : (n < 0 ∨ 87658 < n) ∨ ∃ m : Nat, m < 2880 ∧ st m ≤ n ∧ n < st (m + 1) := by
  by_cases h : n < 0 ∨ 87658 < n
  · exact .inl h
  · exact .inr (mo_ex n (by omega) (by omega))
theorem mo_bd {m : Nat} {n : Int} (hm : m < 2880) (h1 : st m ≤ n) (h2 : n < st (m + 1)) : 0 ≤ n ∧ n ≤ 87658 := by
  have := st_up (m + 1) (by omega); have := st_nn m; omega
theorem date_Month_ok (m k : Nat) (n : Int) (hm : m < 2880) (h1 : st m ≤ n) (h2 : n < st (m + 1)) (hk : 300 ≤ k) : date_Month.f k n = some ((m : Int), 0) := by
  unfold date_Month.f
  rw [date_Civil_ok m k n hm h1 h2 hk]
  simp only [obind, civ, if_true]
  simp (disch := omega) only [w64]
  congr 2; omega
theorem date_Month_no (n : Int) (k : Nat) (h : n < 0 ∨ 87658 < n) : date_Month.f k n = some (0, 15) := by
  unfold date_Month.f
  rw [date_Civil_no n k h]
  rfl
theorem ref_Month_ok (m k : Nat) (n : Int) (hm : m < 2880) (h1 : st m ≤ n) (h2 : n < st (m + 1)) (hk : 2890 ≤ k) : annuityref04_Month.f k n = some ((m : Int), 0) := by
  unfold annuityref04_Month.f
  rw [ref_Civil_ok m k n hm h1 h2 hk]
  simp only [obind, civ, if_true]
  simp (disch := omega) only [w64]
  congr 2; omega
theorem ref_Month_no (n : Int) (k : Nat) (h : n < 0 ∨ 87658 < n) : annuityref04_Month.f k n = some (0, 15) := by
  unfold annuityref04_Month.f
  rw [ref_Civil_no n k h]
  rfl
theorem date_First_ok (m k : Nat) (hm : m < 2880) (hk : 20 ≤ k) : date_First.f k m = some (st m, 0) := by
  unfold date_First.f
  rw [if_neg (by omega), if_neg (by omega), tdiv_nn (by omega), tmod_nn (by omega)]
  simp (disch := omega) only [w64]
  have e : 12 * (m / 12) + m % 12 = m := by omega
  have := date_Of_ok (m / 12) (m % 12) k 1 (by omega) (by omega) (by omega) (by have := dd_ge (1960 + ((m / 12 : Nat) : Int)) (1 + ((m % 12 : Nat) : Int)) (by omega) (by omega); omega) hk
  rw [e, show (1960 + ((m / 12 : Nat) : Int)) = 1960 + (m : Int) / 12 by omega, show (1 + ((m % 12 : Nat) : Int)) = (m : Int) % 12 + 1 by omega] at this
  rw [this]
  simp only [obind]
  rw [Int.add_sub_cancel]
theorem date_First_no (m : Int) (k : Nat) (h : m < 0 ∨ 2880 ≤ m) : date_First.f k m = some (0, 15) := by
  unfold date_First.f
  by_cases c : m < 0
  · rw [if_pos c]
  · rw [if_neg c, if_pos (by omega)]
theorem ref_First_ok (m k : Nat) (hm : m < 2880) (hk : 2890 ≤ k) : annuityref04_First.f k m = some (st m, 0) := by
  unfold annuityref04_First.f
  rw [if_neg (by omega), if_neg (by omega), ref_Start_is m k (by omega) hk]
  rfl
theorem ref_First_no (m : Int) (k : Nat) (h : m < 0 ∨ 2880 ≤ m) : annuityref04_First.f k m = some (0, 15) := by
  unfold annuityref04_First.f
  by_cases c : m < 0
  · rw [if_pos c]
  · rw [if_neg c, if_pos (by omega)]
theorem date_Week_is (n : Int) : date_Week.f n = some (if 0 ≤ n ∧ n ≤ 87658 then ((n + 5) % 7, 0) else (0, 15)) := by
  unfold date_Week.f
  rw [date_Good_is]
  simp only [obind]
  by_cases h : 0 ≤ n ∧ n ≤ 87658
  · rw [if_pos (decide_eq_true h), if_pos h, w64 (by omega) (by omega), tmod_nn (by omega)]
  · rw [if_neg (by simpa using h), if_neg h]
theorem ref_Week_is (n : Int) : annuityref04_Week.f n = some (if 0 ≤ n ∧ n ≤ 87658 then ((n + 5) % 7, 0) else (0, 15)) := by
  unfold annuityref04_Week.f
  rw [ref_Good_is]
  simp only [obind]
  by_cases h : 0 ≤ n ∧ n ≤ 87658
  · rw [if_pos (decide_eq_true h), if_pos h, w64 (by omega) (by omega), tmod_nn (by omega)]
  · rw [if_neg (by simpa using h), if_neg h]
/-- The day d of the month m, or its last one. -/
def inMonth (m : Nat) (d : Int) : Int := st m + (if d ≤ dm m then d else dm m) - 1
theorem mn_is (a b : Int) : mn a b = if a ≤ b then a else b := by unfold mn; split <;> split <;> omega
theorem date_Add_ok (m a k : Nat) (n x : Int) (hm : m < 2880) (h1 : st m ≤ n) (h2 : n < st (m + 1)) (ha : a < 2880) (hx : (m : Int) + x = a) (hk : 310 ≤ k) :
    date_Add.f k n x = some (inMonth a (n - st m + 1), 0) := by
  obtain ⟨k, rfl⟩ : ∃ j, k = j + 2 := ⟨k - 2, by omega⟩
  have := mo_bd hm h1 h2
  unfold date_Add.f
  rw [date_Civil_ok m _ n hm h1 h2 (by omega)]
  simp only [obind, civ, if_true]
  rw [if_neg (by omega), decide_eq_false (by omega)]
  simp only [date_Add.j0]
  rw [if_neg (by simp)]
  simp (disch := omega) only [w64]
  rw [show (1960 + (m : Int) / 12 - 1960) * 12 + (1 + (m : Int) % 12) - 1 + x = a by omega, if_neg (by omega), decide_eq_false (by omega)]
  simp only [date_Add.j1]
  rw [if_neg (by simp), tdiv_nn (by omega), tmod_nn (by omega)]
  simp (disch := omega) only [w64, date_Days_is, obind]
  have e : 12 * (a / 12) + a % 12 = a := by omega
  have ed : dd (1960 + (a : Int) / 12) ((a : Int) % 12 + 1) = dm a := by unfold dm; rw [Int.add_comm 1]
  rw [ed, mn_is]
  have g := dm_ge a
  have g2 : 1 ≤ (if n - st m + 1 ≤ dm a then n - st m + 1 else dm a) := by split <;> omega
  have g3 : (if n - st m + 1 ≤ dm a then n - st m + 1 else dm a) ≤ dm a := by split <;> omega
  have := date_Of_ok (a / 12) (a % 12) k (if n - st m + 1 ≤ dm a then n - st m + 1 else dm a) (by omega) (by omega) g2 (by
    rw [show (1960 + ((a / 12 : Nat) : Int)) = 1960 + (a : Int) / 12 by omega, show (1 + ((a % 12 : Nat) : Int)) = 1 + (a : Int) % 12 by omega]; exact g3) (by omega)
  rw [e, show (1960 + ((a / 12 : Nat) : Int)) = 1960 + (a : Int) / 12 by omega, show (1 + ((a % 12 : Nat) : Int)) = (a : Int) % 12 + 1 by omega] at this
  rw [this]
  rfl
theorem date_Add_no (m k : Nat) (n x : Int) (hm : m < 2880) (h1 : st m ≤ n) (h2 : n < st (m + 1)) (hx : (m : Int) + x < 0 ∨ 2880 ≤ (m : Int) + x) (hk : 310 ≤ k) :
    date_Add.f k n x = some (0, 15) := by
  obtain ⟨k, rfl⟩ : ∃ j, k = j + 2 := ⟨k - 2, by omega⟩
  unfold date_Add.f
  rw [date_Civil_ok m _ n hm h1 h2 (by omega)]
  simp only [obind, civ, if_true, date_Add.j0]
  by_cases c : x < -2880
  · rw [if_pos c]
  rw [if_neg c]
  by_cases c' : x > 2880
  · rw [decide_eq_true c', if_pos rfl]
  rw [decide_eq_false c', if_neg (by simp)]
  simp (disch := omega) only [w64]
  rw [show (1960 + (m : Int) / 12 - 1960) * 12 + (1 + (m : Int) % 12) - 1 + x = m + x by omega]
  by_cases c2 : (m : Int) + x < 0
  · rw [if_pos c2]; simp only [date_Add.j1, if_true]
  · rw [if_neg c2, decide_eq_true (by omega)]; simp only [date_Add.j1, if_true]
theorem date_Add_out (n x : Int) (k : Nat) (h : n < 0 ∨ 87658 < n) (hk : 310 ≤ k) : date_Add.f k n x = some (0, 15) := by
  obtain ⟨k, rfl⟩ : ∃ j, k = j + 2 := ⟨k - 2, by omega⟩
  unfold date_Add.f
  rw [date_Civil_no n _ h]
  rfl
theorem ref_Add_ok (m a k : Nat) (n x : Int) (hm : m < 2880) (h1 : st m ≤ n) (h2 : n < st (m + 1)) (ha : a < 2880) (hx : (m : Int) + x = a) (hk : 2900 ≤ k) :
    annuityref04_Add.f k n x = some (inMonth a (n - st m + 1), 0) := by
  obtain ⟨k, rfl⟩ : ∃ j, k = j + 2 := ⟨k - 2, by omega⟩
  have := mo_bd hm h1 h2
  unfold annuityref04_Add.f
  rw [ref_Civil_ok m _ n hm h1 h2 (by omega)]
  simp only [obind, civ, if_true]
  rw [if_neg (by omega), decide_eq_false (by omega)]
  simp only [annuityref04_Add.j0]
  rw [if_neg (by simp)]
  simp (disch := omega) only [w64]
  rw [show 12 * (1960 + (m : Int) / 12 - 1960) + (1 + (m : Int) % 12) - 1 + x = a by omega, if_neg (by omega), decide_eq_false (by omega)]
  simp only [annuityref04_Add.j1]
  rw [if_neg (by simp), ref_Start_is a k (by omega) (by omega), tdiv_nn (by omega), tmod_nn (by omega)]
  simp only [obind]
  rw [w64 (e := (a : Int) / 12) (by omega) (by omega), w64 (e := 1960 + _) (by omega) (by omega), w64 (e := 1 + _) (by omega) (by omega), ref_Days_is _ _ _ (by omega)]
  have ed : dd (1960 + (a : Int) / 12) (1 + (a : Int) % 12) = dm a := by unfold dm; rfl
  have g := dm_ge a; have g' := dm_le a; have := st_nn a; have := st_up a (by omega)
  have hz : 1 ≤ mn (n - st m + 1) (dm a) ∧ mn (n - st m + 1) (dm a) ≤ 31 := by unfold mn; split <;> omega
  have hi : inMonth a (n - st m + 1) = st a + mn (n - st m + 1) (dm a) - 1 := by unfold inMonth; rw [mn_is]
  rw [ed, hi]
  simp only [obind]
  rw [w64 (e := st a + _) (by omega) (by omega), w64 (by omega) (by omega)]
theorem ref_Add_no (m k : Nat) (n x : Int) (hm : m < 2880) (h1 : st m ≤ n) (h2 : n < st (m + 1)) (hx : (m : Int) + x < 0 ∨ 2880 ≤ (m : Int) + x) (hk : 2900 ≤ k) :
    annuityref04_Add.f k n x = some (0, 15) := by
  obtain ⟨k, rfl⟩ : ∃ j, k = j + 2 := ⟨k - 2, by omega⟩
  unfold annuityref04_Add.f
  rw [ref_Civil_ok m _ n hm h1 h2 (by omega)]
  simp only [obind, civ, if_true, annuityref04_Add.j0]
  by_cases c : x > 2879
  · rw [if_pos c]
  rw [if_neg c]
  by_cases c' : x < -2879
  · rw [decide_eq_true c', if_pos rfl]
  rw [decide_eq_false c', if_neg (by simp)]
  simp (disch := omega) only [w64]
  rw [show 12 * (1960 + (m : Int) / 12 - 1960) + (1 + (m : Int) % 12) - 1 + x = m + x by omega]
  by_cases c2 : (m : Int) + x < 0
  · rw [if_pos c2]; simp only [annuityref04_Add.j1, if_true]
  · rw [if_neg c2, decide_eq_true (by omega)]; simp only [annuityref04_Add.j1, if_true]
theorem ref_Add_out (n x : Int) (k : Nat) (h : n < 0 ∨ 87658 < n) (hk : 2900 ≤ k) : annuityref04_Add.f k n x = some (0, 15) := by
  obtain ⟨k, rfl⟩ : ∃ j, k = j + 2 := ⟨k - 2, by omega⟩
  unfold annuityref04_Add.f
  rw [ref_Civil_no n _ h]
  rfl
/-- So many months on, or 0 and 15. -/
theorem add_both (n x : Int) : ∃ r, ∀ k, 2900 ≤ k → date_Add.f k n x = some r ∧ annuityref04_Add.f k n x = some r := by
  rcases mo_or n with h | ⟨m, hm, h1, h2⟩
  · exact ⟨_, fun k hk => ⟨date_Add_out n x k h (by omega), ref_Add_out n x k h hk⟩⟩
  · by_cases c : (m : Int) + x < 0 ∨ 2880 ≤ (m : Int) + x
    · exact ⟨_, fun k hk => ⟨date_Add_no m k n x hm h1 h2 c (by omega), ref_Add_no m k n x hm h1 h2 c hk⟩⟩
    · obtain ⟨a, ha⟩ : ∃ a : Nat, (m : Int) + x = a := ⟨((m : Int) + x).toNat, by omega⟩
      exact ⟨_, fun k hk => ⟨date_Add_ok m a k n x hm h1 h2 (by omega) ha (by omega), ref_Add_ok m a k n x hm h1 h2 (by omega) ha hk⟩⟩
theorem st_at (n : Nat) (v : Int) (h : yr (1960 + n) = v) : st (12 * n) = v := by rw [st_12, h]
theorem st_480 : st 480 = 14610 := st_at 40 _ (by decide +kernel)
theorem st_481 : st 481 = 14641 := by show st 480 + dm 480 = _; rw [st_480]; decide +kernel
theorem st_482 : st 482 = 14670 := by show st 481 + dm 481 = _; rw [st_481]; decide +kernel
theorem st_492 : st 492 = 14976 := st_at 41 _ (by decide +kernel)
theorem st_493 : st 493 = 15007 := by show st 492 + dm 492 = _; rw [st_492]; decide +kernel
theorem wakes04 (k : Nat) (hk : 400 ≤ k) : annuitylaw04_wakes.f k = some true := by
  have e1 : date_Of.f k 2000 2 29 = some (14669, 0) := by
    have := date_Of_ok 40 1 k 29 (by omega) (by omega) (by omega) (by decide +kernel) (by omega)
    rw [show 12 * 40 + 1 = 481 from rfl, st_481] at this
    exact this
  have e2 : inMonth 493 (14669 - st 481 + 1) = 15034 := by
    have h : dm 493 = 28 := by decide +kernel
    unfold inMonth; rw [st_481, st_493, h]; rfl
  have e3 : date_Add.f k 14669 12 = some (15034, 0) := by
    rw [date_Add_ok 481 493 k 14669 12 (by omega) (by rw [st_481]; omega) (by rw [st_482]; omega) (by omega) (by omega) (by omega), e2]
  have e4 : date_Civil.f k 0 = some (1960, 1, 1, 0) := by
    rw [date_Civil_ok 0 k 0 (by omega) (by decide +kernel) (by decide +kernel) (by omega)]
    rfl
  have e5 : date_Week.f 0 = some (5, 0) := by rw [date_Week_is]; rfl
  have e6 : lg 2000 = true := by decide +kernel
  have e7 : lg 2100 = false := by decide +kernel
  have e8 : dd 1960 2 = 29 := by decide +kernel
  unfold annuitylaw04_wakes.f
  rw [e1]
  simp only [obind]
  rw [e3]
  simp only [obind]
  rw [e4, e5, date_Long_is, date_Long_is, date_Days_is, e6, e7, e8]
  rfl
theorem keep_Mod_is (a n : Int) (hn : 0 < n) (hn' : n ≤ 4611686018427387904) : annuitykeep_Mod.f a n = some (a % n) := by
  unfold annuitykeep_Mod.f
  rw [if_neg (by omega), if_neg (by omega)]
  have h1 := Int.tmod_lt_of_pos a hn
  have h2 : -n < Int.tmod a n := by
    have := Int.lt_tmod_of_pos a hn
    exact this
  rw [w64 (by omega) (by omega), tmod_nn (by omega), Int.add_emod_right]
  congr 1
  rw [Int.tmod_eq_emod]
  split
  · simp
  · rw [Int.natAbs_of_nonneg (by omega), Int.sub_emod, Int.emod_self]; simp
end Go.Proofs.Ytgogccjfoclakaa.Pure
