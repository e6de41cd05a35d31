/- What the calendar's functions, the program's and the reference's, come to, in plain numbers, for every number of rounds that is large enough. -/
import Derived.Test.YtlhcohipnieidaaPx18
import Derived.Test.YtlhcohipnieidaaPx32
import Derived.Test.YtlhcohipnieidaaPlainDate
namespace Go.Proofs.Ytlhcohipnieidaa.PureD
open Go.RowKit Go.Proofs.Ytlhcohipnieidaa.P Go.Proofs.YtlhcohipnieidaaW.PrintWords Go.Proofs.YtlhcohipnieidaaW.PrintLast Go.Proofs.YtlhcohipnieidaaW.PrintMore Go.Proofs.Ytlhcohipnieidaa.Plain

theorem date_Long_is (y : Int) : date_Long.f y = some (lg y) := by
  unfold date_Long.f lg
  simp only [tmod_zero]
  by_cases h : y % 4 = 0
  · rw [if_pos h]
    by_cases h1 : y % 100 = 0
    · rw [if_pos h1]
      by_cases h2 : y % 400 = 0
      · simp [h, h1, h2, (tmod_zero y 400).2 h2]
      · have : ¬ Int.tmod y 400 = 0 := fun e => h2 ((tmod_zero y 400).1 e)
        simp [h, h1, h2, this]
    · rw [if_neg h1]; simp [h, h1]
  · rw [if_neg h]
    have : ¬ y % 400 = 0 := by omega
    simp [h, this]
theorem m_cases {m : Int} (h : ¬ m < 1) (h' : ¬ m > 12) : m = 1 ∨ m = 2 ∨ m = 3 ∨ m = 4 ∨ m = 5 ∨ m = 6 ∨ m = 7 ∨ m = 8 ∨ m = 9 ∨ m = 10 ∨ m = 11 ∨ m = 12 := by omega
theorem date_Days_is (y m : Int) : date_Days.f y m = some (dd y m) := by
  unfold date_Days.f dd
  rw [date_Long_is]
  simp only [obind]
  by_cases h1 : m < 1
  · rw [if_pos h1, if_pos h1]
  by_cases h2 : m > 12
  · rw [if_neg h1, if_neg h1, if_pos h2, if_pos h2]
  rcases m_cases h1 h2 with rfl | rfl | rfl | rfl | rfl | rfl | rfl | rfl | rfl | rfl | rfl | rfl <;> cases lg y <;> rfl
theorem date_years_is (y : Int) (h : 1960 ≤ y) (h' : y ≤ 2200) : date_years.f y = some (yr y) := by
  unfold date_years.f date_years.longs yr
  simp (disch := omega) only [w64, tdiv_nn]
  rfl
theorem st_lit (n : Nat) : yr (1960 + n) = st (12 * n) := (st_12 n).symm
theorem date_Of_l0_is (n M : Nat) (d : Int) (hn : n < 240) (hM : M < 12) (h1 : 1 ≤ d) (h2 : d ≤ 31) : ∀ (i j k : Nat), j + i = M → i < k →
    date_Of.l0 k (1960 + n) (1 + M) d (st (12 * n + j)) (1 + j) = some (st (12 * n + M) + d - 1, 0) := by
  intro i
  have hs : ∀ j : Nat, j ≤ 12 → 0 ≤ st (12 * n + j) ∧ st (12 * n + j) ≤ 87659 := fun j hj => ⟨st_nn _, st_up _ (by omega)⟩
  induction i with
  | zero =>
    intro j k hj hk
    obtain ⟨k, rfl⟩ : ∃ m, k = m + 1 := ⟨k - 1, by omega⟩
    obtain rfl : j = M := by omega
    have := hs j (by omega)
    simp only [date_Of.l0]
    rw [if_neg (by omega)]
    simp (disch := omega) only [w64]
  | succ i ih =>
    intro j k hj hk
    obtain ⟨k, rfl⟩ : ∃ m, k = m + 1 := ⟨k - 1, by omega⟩
    have a := hs j (by omega); have b := hs (j + 1) (by omega)
    have e : st (12 * n + (j + 1)) = st (12 * n + j) + dd (1960 + n) (1 + j) := by rw [← dm_at n j (by omega)]; rfl
    simp only [date_Of.l0]
    rw [if_pos (by omega), date_Days_is]
    simp only [obind]
    rw [← e, w64 (by omega) (by omega), w64 (by omega) (by omega)]
    have := ih (j + 1) k (by omega) (by omega)
    rw [show (1 + (j : Int)) + 1 = 1 + ((j + 1 : Nat) : Int) by omega] 
    exact this
theorem date_Of_ok (n M k : Nat) (d : Int) (hn : n < 240) (hM : M < 12) (h1 : 1 ≤ d) (h2 : d ≤ dd (1960 + n) (1 + M)) (hk : 20 ≤ k) :
    date_Of.f k (1960 + n) (1 + M) d = some (st (12 * n + M) + d - 1, 0) := by
  have := dd_le (1960 + n) (1 + M)
  obtain ⟨k, rfl⟩ : ∃ m, k = m + 1 := ⟨k - 1, by omega⟩
  unfold date_Of.f
  rw [if_neg (by omega), if_neg (by omega), if_neg (by omega), date_Days_is]
  simp only [obind]
  rw [decide_eq_false (by omega)]
  simp only [date_Of.j0]
  rw [if_neg (by simp), date_years_is _ (by omega) (by omega)]
  simp only [obind]
  rw [st_lit]
  have := date_Of_l0_is n M d hn hM h1 (by omega) M 0 k (by omega) (by omega)
  simpa using this
theorem st_366 (a : Nat) (ha : a ≤ 240) : st (12 * a) ≤ 366 * a := by
  rw [st_12]; unfold yr; omega
theorem date_Good_is (n : Int) : date_Good.f n = some (decide (0 ≤ n ∧ n ≤ 87658)) := by
  unfold date_Good.f
  by_cases h : n ≥ 0
  · rw [if_pos h]; simp [h]
  · rw [if_neg h]; simp; omega
/-- The date of the day n of the month m. -/
def civ (m : Nat) (n : Int) : Int × Int × Int × Int := (1960 + (m : Int) / 12, 1 + (m : Int) % 12, n - st m + 1, 0)
theorem date_Civil_l1_is (a M : Nat) (n : Int) (ha : a < 240) (hM : M < 12) (h1 : st (12 * a + M) ≤ n) (h2 : n < st (12 * a + M + 1)) : ∀ (i j k : Nat), j + i = M → i < k →
    date_Civil.l1 k (n - st (12 * a + j)) (1960 + a) (1 + j) = some (1960 + (a : Int), 1 + (M : Int), n - st (12 * a + M) + 1, 0) := by
  intro i
  have hu : n < 87659 := by have := st_up (12 * a + M + 1) (by omega); omega
  induction i with
  | zero =>
    intro j k hj hk
    obtain ⟨k, rfl⟩ : ∃ m, k = m + 1 := ⟨k - 1, by omega⟩
    obtain rfl : j = M := by omega
    have e : st (12 * a + j + 1) = st (12 * a + j) + dd (1960 + a) (1 + j) := by rw [← dm_at a j (by omega)]; rfl
    have := st_nn (12 * a + j)
    simp only [date_Civil.l1, date_Days_is, obind]
    rw [if_neg (by omega)]
    simp (disch := omega) only [w64]
  | succ i ih =>
    intro j k hj hk
    obtain ⟨k, rfl⟩ : ∃ m, k = m + 1 := ⟨k - 1, by omega⟩
    have e : st (12 * a + j + 1) = st (12 * a + j) + dd (1960 + a) (1 + j) := by rw [← dm_at a j (by omega)]; rfl
    have := st_nn (12 * a + j)
    have := st_mono (show 12 * a + j + 1 ≤ 12 * a + M by omega)
    have := dd_nn (1960 + a) (1 + j)
    simp only [date_Civil.l1, date_Days_is, obind]
    rw [if_pos (by omega), w64 (by omega) (by omega), w64 (by omega) (by omega)]
    have := ih (j + 1) k (by omega) (by omega)
    rw [show n - st (12 * a + j) - dd (1960 + ↑a) (1 + ↑j) = n - st (12 * a + (j + 1)) by rw [← Nat.add_assoc]; omega, show (1 + (j : Int)) + 1 = 1 + ((j + 1 : Nat) : Int) by omega] 
    exact this
theorem date_Civil_l0_is (m : Nat) (n : Int) (hm : m < 2880) (h1 : st m ≤ n) (h2 : n < st (m + 1)) : ∀ (i a k : Nat), a + i = m / 12 → i + 20 < k →
    date_Civil.l0 k n (1960 + a) = some (civ m n) := by
  have hu : n < 87659 := by have := st_up (m + 1) (by omega); omega
  have hl : 0 ≤ n := by have := st_nn m; omega
  intro i
  induction i with
  | zero =>
    intro a k ha hk
    obtain ⟨k, rfl⟩ : ∃ m, k = m + 2 := ⟨k - 2, by omega⟩
    obtain rfl : a = m / 12 := by omega
    have hj : date_Civil.j1 (k + 1) n (1960 + ((m / 12 : Nat) : Int)) = some (civ m n) := by
      simp only [date_Civil.j1]
      rw [date_years_is _ (by omega) (by omega)]
      simp only [obind]
      rw [st_lit]
      have a := st_nn (12 * (m / 12)); have b := st_mono (show 12 * (m / 12) ≤ m by omega)
      rw [w64 (by omega) (by omega)]
      have e : 12 * (m / 12) + m % 12 = m := by omega
      have := date_Civil_l1_is (m / 12) (m % 12) n (by omega) (by omega) (by rw [e]; exact h1) (by rw [e]; exact h2) (m % 12) 0 k (by omega) (by omega)
      rw [e] at this
      unfold civ
      simpa using this
    simp only [date_Civil.l0]
    by_cases c : 1960 + ((m / 12 : Nat) : Int) < 2199
    · rw [if_pos c, w64 (by omega) (by omega), date_years_is _ (by omega) (by omega)]
      simp only [obind]
      rw [show 1960 + ((m / 12 : Nat) : Int) + 1 = 1960 + ((m / 12 + 1 : Nat) : Int) by omega, st_lit]
      have := st_mono (show m + 1 ≤ 12 * (m / 12 + 1) by omega)
      rw [if_neg (by omega)]
      exact hj
    · rw [if_neg c]; exact hj
  | succ i ih =>
    intro a k ha hk
    obtain ⟨k, rfl⟩ : ∃ m, k = m + 1 := ⟨k - 1, by omega⟩
    simp only [date_Civil.l0]
    rw [if_pos (by omega), w64 (by omega) (by omega), date_years_is _ (by omega) (by omega)]
    simp only [obind]
    rw [show 1960 + (a : Int) + 1 = 1960 + ((a + 1 : Nat) : Int) by omega, st_lit]
    have := st_mono (show 12 * (a + 1) ≤ m by omega)
    rw [if_pos (by omega)]
    exact ih (a + 1) k (by omega) (by omega)
theorem date_Civil_ok (m k : Nat) (n : Int) (hm : m < 2880) (h1 : st m ≤ n) (h2 : n < st (m + 1)) (hk : 300 ≤ k) : date_Civil.f k n = some (civ m n) := by
  have hu : n < 87659 := by have := st_up (m + 1) (by omega); omega
  have hl : 0 ≤ n := by have := st_nn m; omega
  unfold date_Civil.f
  rw [date_Good_is, decide_eq_true (by omega)]
  simp only [obind, if_true]
  rw [tdiv_nn (by omega), w64 (e := n / 366) (by omega) (by omega), w64 (by omega) (by omega)]
  obtain ⟨a, ha⟩ : ∃ a : Nat, n / 366 = a := ⟨(n / 366).toNat, by omega⟩
  rw [ha]
  have h3 := st_366 a (by omega)
  have h4 : a ≤ m / 12 := by
    apply Nat.le_of_not_lt; intro h
    have := st_mono (show m + 1 ≤ 12 * a by omega)
    omega
  exact date_Civil_l0_is m n hm h1 h2 (m / 12 - a) a k (by omega) (by omega)
theorem date_Civil_no (n : Int) (k : Nat) (h : n < 0 ∨ 87658 < n) : date_Civil.f k n = some (0, 0, 0, 15) := by
  unfold date_Civil.f
  rw [date_Good_is, decide_eq_false (by omega)]
  rfl
theorem mo_bd {m : Nat} {n : Int} (hm : m < 2880) (h1 : st m ≤ n) (h2 : n < st (m + 1)) : 0 ≤ n ∧ n ≤ 87658 := by
  have := st_up (m + 1) (by omega); have := st_nn m; omega
theorem date_Month_ok (m k : Nat) (n : Int) (hm : m < 2880) (h1 : st m ≤ n) (h2 : n < st (m + 1)) (hk : 300 ≤ k) : date_Month.f k n = some ((m : Int), 0) := by
  unfold date_Month.f
  rw [date_Civil_ok m k n hm h1 h2 hk]
  simp only [obind, civ, if_true]
  simp (disch := omega) only [w64]
  congr 2; omega
/-- The day d of the month m, or its last one. -/
def inMonth (m : Nat) (d : Int) : Int := st m + (if d ≤ dm m then d else dm m) - 1
theorem mn_is (a b : Int) : mn a b = if a ≤ b then a else b := by unfold mn; split <;> split <;> omega
theorem date_Add_ok (m a k : Nat) (n x : Int) (hm : m < 2880) (h1 : st m ≤ n) (h2 : n < st (m + 1)) (ha : a < 2880) (hx : (m : Int) + x = a) (hk : 310 ≤ k) :
    date_Add.f k n x = some (inMonth a (n - st m + 1), 0) := by
  obtain ⟨k, rfl⟩ : ∃ j, k = j + 2 := ⟨k - 2, by omega⟩
  have := mo_bd hm h1 h2
  unfold date_Add.f
  rw [date_Civil_ok m _ n hm h1 h2 (by omega)]
  simp only [obind, civ, if_true]
  rw [if_neg (by omega), decide_eq_false (by omega)]
  simp only [date_Add.j0]
  rw [if_neg (by simp)]
  simp (disch := omega) only [w64]
  rw [show (1960 + (m : Int) / 12 - 1960) * 12 + (1 + (m : Int) % 12) - 1 + x = a by omega, if_neg (by omega), decide_eq_false (by omega)]
  simp only [date_Add.j1]
  rw [if_neg (by simp), tdiv_nn (by omega), tmod_nn (by omega)]
  simp (disch := omega) only [w64, date_Days_is, obind]
  have e : 12 * (a / 12) + a % 12 = a := by omega
  have ed : dd (1960 + (a : Int) / 12) ((a : Int) % 12 + 1) = dm a := by unfold dm; rw [Int.add_comm 1]
  rw [ed, mn_is]
  have g := dm_ge a
  have g2 : 1 ≤ (if n - st m + 1 ≤ dm a then n - st m + 1 else dm a) := by split <;> omega
  have g3 : (if n - st m + 1 ≤ dm a then n - st m + 1 else dm a) ≤ dm a := by split <;> omega
  have := date_Of_ok (a / 12) (a % 12) k (if n - st m + 1 ≤ dm a then n - st m + 1 else dm a) (by omega) (by omega) g2 (by
    rw [show (1960 + ((a / 12 : Nat) : Int)) = 1960 + (a : Int) / 12 by omega, show (1 + ((a % 12 : Nat) : Int)) = 1 + (a : Int) % 12 by omega]; exact g3) (by omega)
  rw [e, show (1960 + ((a / 12 : Nat) : Int)) = 1960 + (a : Int) / 12 by omega, show (1 + ((a % 12 : Nat) : Int)) = (a : Int) % 12 + 1 by omega] at this
  rw [this]
  rfl
theorem date_Add_no (m k : Nat) (n x : Int) (hm : m < 2880) (h1 : st m ≤ n) (h2 : n < st (m + 1)) (hx : (m : Int) + x < 0 ∨ 2880 ≤ (m : Int) + x) (hk : 310 ≤ k) :
    date_Add.f k n x = some (0, 15) := by
  obtain ⟨k, rfl⟩ : ∃ j, k = j + 2 := ⟨k - 2, by omega⟩
  unfold date_Add.f
  rw [date_Civil_ok m _ n hm h1 h2 (by omega)]
  simp only [obind, civ, if_true, date_Add.j0]
  by_cases c : x < -2880
  · rw [if_pos c]
  rw [if_neg c]
  by_cases c' : x > 2880
  · rw [decide_eq_true c', if_pos rfl]
  rw [decide_eq_false c', if_neg (by simp)]
  simp (disch := omega) only [w64]
  rw [show (1960 + (m : Int) / 12 - 1960) * 12 + (1 + (m : Int) % 12) - 1 + x = m + x by omega]
  by_cases c2 : (m : Int) + x < 0
  · rw [if_pos c2]; simp only [date_Add.j1, if_true]
  · rw [if_neg c2, decide_eq_true (by omega)]; simp only [date_Add.j1, if_true]
theorem date_Add_out (n x : Int) (k : Nat) (h : n < 0 ∨ 87658 < n) (hk : 310 ≤ k) : date_Add.f k n x = some (0, 15) := by
  obtain ⟨k, rfl⟩ : ∃ j, k = j + 2 := ⟨k - 2, by omega⟩
  unfold date_Add.f
  rw [date_Civil_no n _ h]
  rfl
theorem st_at (n : Nat) (v : Int) (h : yr (1960 + n) = v) : st (12 * n) = v := by rw [st_12, h]
theorem keep_Mod_is (a n : Int) (hn : 0 < n) (hn' : n ≤ 4611686018427387904) : annuitykeep_Mod.f a n = some (a % n) := by
  unfold annuitykeep_Mod.f
  rw [if_neg (by omega), if_neg (by omega)]
  have h1 := Int.tmod_lt_of_pos a hn
  have h2 : -n < Int.tmod a n := by
    have := Int.lt_tmod_of_pos a hn
    exact this
  rw [w64 (by omega) (by omega), tmod_nn (by omega), Int.add_emod_right]
  congr 1
  rw [Int.tmod_eq_emod]
  split
  · simp
  · rw [Int.natAbs_of_nonneg (by omega), Int.sub_emod, Int.emod_self]; simp
end Go.Proofs.Ytlhcohipnieidaa.PureD
