/- What the functions on due dates, the program's and the reference's, come to, in plain numbers, for every number of rounds that is large enough. -/
import Derived.Test.YtgogccjfoclakaaPx16
import Derived.Test.YtgogccjfoclakaaPx17
import Derived.Test.YtgogccjfoclakaaPx18
import Derived.Test.YtgogccjfoclakaaPx19
import Derived.Test.YtgogccjfoclakaaPx20
import Derived.Test.YtgogccjfoclakaaPx21
import Derived.Test.YtgogccjfoclakaaDateEv
namespace Go.Proofs.Ytgogccjfoclakaa.Pure
open Go.RowKit Go.Proofs.Ytgogccjfoclakaa.P Go.Proofs.YtgogccjfoclakaaW.PrintWords Go.Proofs.YtgogccjfoclakaaW.PrintLast Go.Proofs.YtgogccjfoclakaaW.PrintMore Go.Proofs.Ytgogccjfoclakaa.Plain

theorem keep_Ints_l0 (l : List Int) (hl : l.length ≤ 4611686018427387904) : ∀ (d k : Nat) (i : Int), 0 ≤ i → i + d = l.length → d < k → annuitykeep_Ints.l0 k l l i = some true := by
  intro d
  induction d with
  | zero =>
    intro k i h0 h1 hk
    obtain ⟨k, rfl⟩ : ∃ m, k = m + 1 := ⟨k - 1, by omega⟩
    simp only [annuitykeep_Ints.l0]; rw [if_neg (by omega)]
  | succ d ih =>
    intro k i h0 h1 hk
    obtain ⟨k, rfl⟩ : ∃ m, k = m + 1 := ⟨k - 1, by omega⟩
    simp only [annuitykeep_Ints.l0]
    rw [if_pos (by omega), if_pos h0, if_pos (by omega), if_pos trivial, w64 (by omega) (by omega)]
    exact ih k (i + 1) (by omega) (by omega) (by omega)
theorem keep_Ints_same (l : List Int) (k : Nat) (hl : l.length ≤ 4611686018427387904) (hk : l.length < k) : annuitykeep_Ints.f k l l = some true := by
  unfold annuitykeep_Ints.f
  rw [if_pos rfl]
  exact keep_Ints_l0 l hl l.length k 0 (by omega) (by omega) hk

/-- So many numbers from a on. -/
def run (a n : Nat) : List Int := (List.range n).map fun i => ((a + i : Nat) : Int)
theorem run_zero (a : Nat) : run a 0 = [] := rfl
theorem run_succ (a n : Nat) : run a (n + 1) = run a n ++ [((a + n : Nat) : Int)] := by simp [run, List.range_succ]
theorem run_length (a n : Nat) : (run a n).length = n := by simp [run]
theorem run_add (a n m : Nat) : run a (n + m) = run a n ++ run (a + n) m := by
  induction m with
  | zero => simp [run_zero]
  | succ m ih => rw [← Nat.add_assoc, run_succ, ih, run_succ, List.append_assoc, Nat.add_assoc]

/-- The first month whose first day is later than a day. -/
structure After (from_ : Int) (at_ : Nat) : Prop where
  is : ∀ m : Nat, m ≤ 2880 → (from_ < st m ↔ at_ ≤ m)
  le : at_ ≤ 2880
theorem after_neg : After (-1) 0 := ⟨fun m _ => by have := st_nn m; constructor <;> intro <;> omega, by omega⟩
theorem after_mo {m : Nat} {n : Int} (hm : m < 2880) (h1 : st m ≤ n) (h2 : n < st (m + 1)) : After n (m + 1) :=
  ⟨fun j _ => by
    constructor
    · intro h; apply Nat.lt_of_not_le; intro c; have := st_mono c; omega
    · intro h; have := st_mono h; omega, by omega⟩

theorem due_Months_l0_is (a : Nat) (N : Nat) (ha : a ≤ 2880) (hN : N ≤ 2880) : ∀ (i j k : Nat), j + i = N → i < k → due_Months.l0 k a (run a j) N j = some (run a N) := by
  intro i
  induction i with
  | zero =>
    intro j k hj hk
    obtain ⟨k, rfl⟩ : ∃ m, k = m + 1 := ⟨k - 1, by omega⟩
    obtain rfl : j = N := by omega
    simp only [due_Months.l0]; rw [if_neg (by omega)]
  | succ i ih =>
    intro j k hj hk
    obtain ⟨k, rfl⟩ : ∃ m, k = m + 1 := ⟨k - 1, by omega⟩
    simp only [due_Months.l0]
    rw [if_pos (by omega), if_pos (by rw [run_length]; omega), w64 (by omega) (by omega), w64 (by omega) (by omega), show (a : Int) + (j : Int) = ((a + j : Nat) : Int) by omega, ← run_succ]
    exact ih (j + 1) k (by omega) (by omega)
theorem mx_is (a b : Int) : mx a b = if a ≤ b then b else a := by unfold mx; split <;> split <;> omega
theorem due_Months_ok (f t : Int) (a last k : Nat) (hf : -1 ≤ f) (hft : f ≤ t) (hl : last < 2880) (h1 : st last ≤ t) (h2 : t < st (last + 1)) (ha : f = -1 ∧ a = 0 ∨ ∃ p : Nat, a = p + 1 ∧ p < 2880 ∧ st p ≤ f ∧ f < st (p + 1)) (hk : 3000 ≤ k) :
    due_Months.f k f t = some (run a (last + 1 - a)) := by
  obtain ⟨k, rfl⟩ : ∃ j, k = j + 2 := ⟨k - 2, by omega⟩
  have hb := mo_bd hl h1 h2
  have hal : a ≤ last + 1 := by
    rcases ha with ⟨_, rfl⟩ | ⟨p, rfl, hp, hp1, hp2⟩
    · omega
    · apply Nat.succ_le_succ; apply Nat.le_of_not_lt; intro c; have := st_mono (show last + 1 ≤ p from c); omega
  have hj1 : due_Months.j1 (k + 1) t a = some (run a (last + 1 - a)) := by
    simp only [due_Months.j1]
    rw [date_Month_ok last k t hl h1 h2 (by omega)]
    simp only [obind]
    rw [w64 (e := (last : Int) - a) (by omega) (by omega), w64 (by omega) (by omega), mx_is]
    have e : (if (last : Int) - a + 1 ≤ 0 then 0 else (last : Int) - a + 1) = ((last + 1 - a : Nat) : Int) := by split <;> omega
    rw [e]
    exact due_Months_l0_is a (last + 1 - a) (by omega) (by omega) (last + 1 - a) 0 k (by omega) (by omega)
  unfold due_Months.f
  rw [if_neg (by omega), if_neg (by omega), date_Good_is, decide_eq_true (by omega)]
  simp only [obind, due_Months.j0]
  rw [if_neg (by simp)]
  rcases ha with ⟨rfl, rfl⟩ | ⟨p, rfl, hp, hp1, hp2⟩
  · have hm : mx (-1) (-1) = -1 := rfl
    rw [hm, if_neg (by omega)]; exact hj1
  · have := st_nn p
    have hm : mx f (-1) = f := by rw [mx_is, if_neg (by omega)]
    rw [hm, if_pos (by omega), date_Month_ok p _ f hp hp1 hp2 (by omega)]
    simp only [obind]
    rw [w64 (by omega) (by omega)]; exact hj1
theorem due_Months_no (f t : Int) (k : Nat) (h : f < -1 ∨ t < f ∨ t < 0 ∨ 87658 < t) (hk : 10 ≤ k) : due_Months.f k f t = some [] := by
  obtain ⟨k, rfl⟩ : ∃ j, k = j + 2 := ⟨k - 2, by omega⟩
  unfold due_Months.f
  by_cases c1 : f < -1
  · rw [if_pos c1]; simp only [due_Months.j0, if_true]
  by_cases c2 : f > t
  · rw [if_neg c1, if_pos c2]; simp only [due_Months.j0, if_true]
  rw [if_neg c1, if_neg c2, date_Good_is, decide_eq_false (by omega)]
  simp only [obind, due_Months.j0, Bool.not_false, if_true]
theorem ref_Months_l0_is (f t : Int) (a last : Nat) (hA : After f a) (hL : After t (last + 1)) (hl : last < 2880) : ∀ (i m k : Nat), m + i = last + 1 → i + 20 < k →
    annuityref05_Months.l0 k f t (run a (m - a)) (st m) m = some (run a (last + 1 - a)) := by
  intro i
  induction i with
  | zero =>
    intro m k hj hk
    obtain ⟨k, rfl⟩ : ∃ m, k = m + 1 := ⟨k - 1, by omega⟩
    obtain rfl : m = last + 1 := by omega
    simp only [annuityref05_Months.l0]
    by_cases c : ((last + 1 : Nat) : Int) ≤ 2879
    · have := (hL.is (last + 1) (by omega)).2 (Nat.le_refl _)
      rw [if_pos c, if_pos (by omega)]
    · rw [if_neg c]
  | succ i ih =>
    intro m k hj hk
    obtain ⟨k, rfl⟩ : ∃ m, k = m + 1 := ⟨k - 1, by omega⟩
    simp only [annuityref05_Months.l0]
    have c1 : ¬ (t < st m) := fun h => by have := (hL.is m (by omega)).1 h; omega
    have hs := st_nn m; have hs2 := st_up (m + 1) (by omega)
    have e : st m + dd (1960 + (m : Int) / 12) (1 + (m : Int) % 12) = st (m + 1) := rfl
    rw [if_pos (by omega), if_neg c1, tdiv_nn (by omega), tmod_nn (by omega), w64 (e := (m : Int) / 12) (by omega) (by omega), w64 (e := 1960 + _) (by omega) (by omega), w64 (e := 1 + _) (by omega) (by omega), ref_Days_is _ _ _ (by omega)]
    simp only [obind]
    have hd := dd_nn (1960 + (m : Int) / 12) (1 + (m : Int) % 12)
    rw [w64 (e := st m + _) (by omega) (by omega), w64 (e := (m : Int) + 1) (by omega) (by omega), e]
    have := ih (m + 1) k (by omega) (by omega)
    by_cases c2 : a ≤ m
    · have c3 := (hA.is m (by omega)).2 c2
      rw [if_pos (by omega), if_pos (by rw [run_length]; omega)]
      rw [show m + 1 - a = (m - a) + 1 by omega, run_succ, show a + (m - a) = m by omega] at this
      exact this
    · have c3 : ¬ (f < st m) := fun h => c2 ((hA.is m (by omega)).1 h)
      rw [if_neg (by omega)]
      rw [show m + 1 - a = m - a by omega] at this
      exact this
theorem ref_Months_ok (f t : Int) (a last k : Nat) (hf : -1 ≤ f) (hft : f ≤ t) (ht : 0 ≤ t ∧ t ≤ 87658) (hA : After f a) (hL : After t (last + 1)) (hl : last < 2880) (hk : 3000 ≤ k) :
    annuityref05_Months.f k f t = some (run a (last + 1 - a)) := by
  obtain ⟨k, rfl⟩ : ∃ j, k = j + 2 := ⟨k - 2, by omega⟩
  unfold annuityref05_Months.f
  rw [if_neg (by omega), if_neg (by omega), ref_Good_is, decide_eq_true (by omega)]
  simp only [obind, annuityref05_Months.j0]
  rw [if_neg (by simp)]
  have := ref_Months_l0_is f t a last hA hL hl (last + 1) 0 (k + 1) (by omega) (by omega)
  rw [Nat.zero_sub, run_zero] at this
  exact this
theorem ref_Months_no (f t : Int) (k : Nat) (h : f < -1 ∨ t < f ∨ t < 0 ∨ 87658 < t) (hk : 10 ≤ k) : annuityref05_Months.f k f t = some [] := by
  obtain ⟨k, rfl⟩ : ∃ j, k = j + 2 := ⟨k - 2, by omega⟩
  unfold annuityref05_Months.f
  by_cases c1 : f < -1
  · rw [if_pos c1]; simp only [annuityref05_Months.j0, if_true]
  by_cases c2 : f > t
  · rw [if_neg c1, if_pos c2]; simp only [annuityref05_Months.j0, if_true]
  rw [if_neg c1, if_neg c2, ref_Good_is, decide_eq_false (by omega)]
  simp only [obind, annuityref05_Months.j0, Bool.not_false, if_true]
theorem months_both (f t : Int) : ∃ l : List Int, l.length ≤ 2880 ∧ ∀ k, 3000 ≤ k → due_Months.f k f t = some l ∧ annuityref05_Months.f k f t = some l := by
  by_cases h : f < -1 ∨ t < f ∨ t < 0 ∨ 87658 < t
  · exact ⟨[], by simp, fun k hk => ⟨due_Months_no f t k h (by omega), ref_Months_no f t k h (by omega)⟩⟩
  · obtain ⟨last, hl, h1, h2⟩ := mo_ex t (by omega) (by omega)
    by_cases c : f = -1
    · subst c
      exact ⟨run 0 (last + 1 - 0), by rw [run_length]; omega, fun k hk => ⟨due_Months_ok _ t 0 last k (by omega) (by omega) hl h1 h2 (.inl ⟨rfl, rfl⟩) hk, ref_Months_ok _ t 0 last k (by omega) (by omega) (by omega) after_neg (after_mo hl h1 h2) hl hk⟩⟩
    · obtain ⟨p, hp, p1, p2⟩ := mo_ex f (by omega) (by omega)
      exact ⟨run (p + 1) (last + 1 - (p + 1)), by rw [run_length]; omega, fun k hk => ⟨due_Months_ok _ t (p + 1) last k (by omega) (by omega) hl h1 h2 (.inr ⟨p, rfl, hp, p1, p2⟩) hk, ref_Months_ok _ t (p + 1) last k (by omega) (by omega) (by omega) (after_mo hp p1 p2) (after_mo hl h1 h2) hl hk⟩⟩
theorem first_or (m : Int) : (m < 0 ∨ 2880 ≤ m) ∨ ∃ j : Nat, m = j ∧ j < 2880 := by
  by_cases h : m < 0 ∨ 2880 ≤ m
  · exact .inl h
  · exact .inr ⟨m.toNat, by omega, by omega⟩
theorem due_InTime_ok (m k : Nat) (d : Int) (hm : m < 2880) (hk : 20 ≤ k) : due_InTime.f k m d = some (decide (0 ≤ d ∧ d ≤ 87658 ∧ d ≤ st m + 15)) := by
  unfold due_InTime.f
  rw [date_First_ok m k hm hk]
  simp only [obind, if_true, date_Good_is]
  have := st_nn m; have := st_up m (by omega)
  rw [w64 (by omega) (by omega)]
  by_cases c : 0 ≤ d ∧ d ≤ 87658
  · rw [if_pos (decide_eq_true c)]; congr 1; rw [decide_eq_decide]; omega
  · rw [if_neg (by simpa using c)]; congr 1; symm; rw [decide_eq_false_iff_not]; omega
theorem due_InTime_no (m d : Int) (k : Nat) (h : m < 0 ∨ 2880 ≤ m) : due_InTime.f k m d = some false := by
  unfold due_InTime.f
  rw [date_First_no m k h]
  simp only [obind]
  rw [if_neg (by omega)]
theorem ref_InTime_ok (m k : Nat) (d : Int) (hm : m < 2880) (hk : 2890 ≤ k) : annuityref05_InTime.f k m d = some (decide (0 ≤ d ∧ d ≤ 87658 ∧ d ≤ st m + 15)) := by
  unfold annuityref05_InTime.f
  rw [ref_First_ok m k hm hk]
  simp only [obind, if_true, ref_Good_is]
  have := st_nn m; have := st_up m (by omega)
  rw [w64 (by omega) (by omega)]
  by_cases c : 0 ≤ d ∧ d ≤ 87658
  · rw [if_pos (decide_eq_true c)]; congr 1; rw [decide_eq_decide]; omega
  · rw [if_neg (by simpa using c)]; congr 1; symm; rw [decide_eq_false_iff_not]; omega
theorem ref_InTime_no (m d : Int) (k : Nat) (h : m < 0 ∨ 2880 ≤ m) : annuityref05_InTime.f k m d = some false := by
  unfold annuityref05_InTime.f
  rw [ref_First_no m k h]
  simp only [obind]
  rw [if_neg (by omega)]
/-- How late a day is for a month's bill. -/
def lateS (m : Nat) (d : Int) : Int := if 0 ≤ d ∧ d ≤ 87658 then (if d - st m - 15 ≤ 0 then 0 else d - st m - 15) else 0
theorem due_Late_ok (m k : Nat) (d : Int) (hm : m < 2880) (hk : 20 ≤ k) : due_Late.f k m d = some (lateS m d) := by
  unfold due_Late.f lateS
  rw [date_First_ok m k hm hk]
  simp only [obind, if_true, date_Good_is]
  have := st_nn m; have := st_up m (by omega)
  by_cases c : 0 ≤ d ∧ d ≤ 87658
  · rw [if_pos (decide_eq_true c), if_pos c, w64 (e := d - st m) (by omega) (by omega), w64 (by omega) (by omega), mx_is]
  · rw [if_neg (by simpa using c), if_neg c]
theorem due_Late_no (m d : Int) (k : Nat) (h : m < 0 ∨ 2880 ≤ m) : due_Late.f k m d = some 0 := by
  unfold due_Late.f
  rw [date_First_no m k h]
  simp only [obind]
  rw [if_neg (by omega)]
theorem ref_Late_ok (m k : Nat) (d : Int) (hm : m < 2880) (hk : 2890 ≤ k) : annuityref05_Late.f k m d = some (lateS m d) := by
  unfold annuityref05_Late.f lateS
  rw [ref_First_ok m k hm hk]
  simp only [obind, if_true, ref_Good_is]
  have := st_nn m; have := st_up m (by omega)
  by_cases c : 0 ≤ d ∧ d ≤ 87658
  · rw [if_pos (decide_eq_true c), if_pos c, w64 (e := d - st m) (by omega) (by omega), w64 (by omega) (by omega), mx_is]
    congr 1; split <;> split <;> omega
  · rw [if_neg (by simpa using c), if_neg c]
theorem ref_Late_no (m d : Int) (k : Nat) (h : m < 0 ∨ 2880 ≤ m) : annuityref05_Late.f k m d = some 0 := by
  unfold annuityref05_Late.f
  rw [ref_First_no m k h]
  simp only [obind]
  rw [if_neg (by omega)]
theorem due_Year_is (d n : Int) (k : Nat) : due_Year.f k d n = if n < 0 ∨ 240 < n then some (0, 1) else date_Add.f k d (12 * n) := by
  unfold due_Year.f
  by_cases c : n < 0
  · rw [if_pos c, if_pos (.inl c)]
  by_cases c2 : n > 240
  · rw [if_neg c, if_pos c2, if_pos (.inr c2)]
  rw [if_neg c, if_neg c2, if_neg (by omega), w64 (by omega) (by omega)]
  cases date_Add.f k d (12 * n) <;> rfl
theorem ref_Year_is (d n : Int) (k : Nat) : annuityref05_Year.f k d n = if n < 0 ∨ 240 < n then some (0, 1) else annuityref04_Add.f k d (12 * n) := by
  unfold annuityref05_Year.f
  by_cases c : n < 0
  · rw [if_pos c, if_pos (.inl c)]
  by_cases c2 : n > 240
  · rw [if_neg c, if_pos c2, if_pos (.inr c2)]
  rw [if_neg c, if_neg c2, if_neg (by omega), w64 (by omega) (by omega)]
  cases annuityref04_Add.f k d (12 * n) <;> rfl
/-- Whole months between a day of the month m and a day of the month n. -/
def wholeS (m n : Nat) (a b : Int) : Int := if inMonth n (a - st m + 1) ≤ b then (n : Int) - m else (n : Int) - m - 1
theorem due_Whole_ok (m n k : Nat) (a b : Int) (hm : m < 2880) (h1 : st m ≤ a) (h2 : a < st (m + 1)) (hn : n < 2880) (g1 : st n ≤ b) (g2 : b < st (n + 1)) (hab : a ≤ b) (hk : 400 ≤ k) :
    due_Whole.f k a b = some (wholeS m n a b) := by
  obtain ⟨k, rfl⟩ : ∃ j, k = j + 1 := ⟨k - 1, by omega⟩
  have ha := mo_bd hm h1 h2; have hb := mo_bd hn g1 g2
  unfold due_Whole.f wholeS
  rw [date_Good_is, date_Good_is, decide_eq_true (by omega), decide_eq_true (by omega)]
  simp only [obind, if_true]
  rw [decide_eq_false (by omega)]
  simp only [due_Whole.j0]
  rw [if_neg (by simp), date_Month_ok m k a hm h1 h2 (by omega), date_Month_ok n k b hn g1 g2 (by omega)]
  simp only [obind]
  rw [w64 (e := (n : Int) - m) (by omega) (by omega), date_Add_ok m n k a _ hm h1 h2 hn (by omega) (by omega)]
  simp only [obind, if_true]
  rw [w64 (by omega) (by omega)]
  split <;> rfl
theorem due_Whole_no (a b : Int) (k : Nat) (h : a < 0 ∨ 87658 < a ∨ b < 0 ∨ 87658 < b ∨ b < a) (hk : 10 ≤ k) : due_Whole.f k a b = some 0 := by
  obtain ⟨k, rfl⟩ : ∃ j, k = j + 1 := ⟨k - 1, by omega⟩
  unfold due_Whole.f
  simp only [date_Good_is, obind, due_Whole.j0]
  by_cases c1 : 0 ≤ a ∧ a ≤ 87658
  · by_cases c2 : 0 ≤ b ∧ b ≤ 87658
    · rw [decide_eq_true c1, decide_eq_true c2, if_pos rfl, if_pos rfl, decide_eq_true (by omega), if_pos rfl]
    · rw [decide_eq_true c1, decide_eq_false c2, if_pos rfl, if_neg (by simp), if_pos trivial]
  · rw [decide_eq_false c1, if_neg (by simp), if_pos trivial]
theorem ref_Whole_ok (m n k : Nat) (a b : Int) (hm : m < 2880) (h1 : st m ≤ a) (h2 : a < st (m + 1)) (hn : n < 2880) (g1 : st n ≤ b) (g2 : b < st (n + 1)) (hab : a ≤ b) (hk : 3000 ≤ k) :
    annuityref05_Whole.f k a b = some (wholeS m n a b) := by
  obtain ⟨k, rfl⟩ : ∃ j, k = j + 1 := ⟨k - 1, by omega⟩
  have ha := mo_bd hm h1 h2; have hb := mo_bd hn g1 g2
  unfold annuityref05_Whole.f wholeS
  rw [ref_Good_is, ref_Good_is, decide_eq_true (by omega), decide_eq_true (by omega)]
  simp only [obind, if_true]
  rw [decide_eq_false (by omega)]
  simp only [annuityref05_Whole.j0]
  rw [if_neg (by simp), ref_Civil_ok m k a hm h1 h2 (by omega), ref_Civil_ok n k b hn g1 g2 (by omega)]
  simp only [obind, civ]
  rw [w64 (e := 1960 + (n : Int) / 12 - (1960 + (m : Int) / 12)) (by omega) (by omega), w64 (e := 12 * _) (by omega) (by omega), w64 (e := 12 * _ + _) (by omega) (by omega), w64 (e := 12 * (1960 + (n : Int) / 12 - (1960 + (m : Int) / 12)) + (1 + (n : Int) % 12) - (1 + (m : Int) % 12)) (by omega) (by omega)]
  have e : 12 * (1960 + (n : Int) / 12 - (1960 + (m : Int) / 12)) + (1 + (n : Int) % 12) - (1 + (m : Int) % 12) = n - m := by omega
  rw [e, ref_Add_ok m n k a _ hm h1 h2 hn (by omega) (by omega)]
  simp only [obind]
  rw [w64 (by omega) (by omega)]
  by_cases c : inMonth n (a - st m + 1) ≤ b
  · rw [if_pos c, if_neg (by omega)]
  · rw [if_neg c, if_pos (by omega)]
theorem ref_Whole_no (a b : Int) (k : Nat) (h : a < 0 ∨ 87658 < a ∨ b < 0 ∨ 87658 < b ∨ b < a) (hk : 10 ≤ k) : annuityref05_Whole.f k a b = some 0 := by
  obtain ⟨k, rfl⟩ : ∃ j, k = j + 1 := ⟨k - 1, by omega⟩
  unfold annuityref05_Whole.f
  simp only [ref_Good_is, obind, annuityref05_Whole.j0]
  by_cases c1 : 0 ≤ a ∧ a ≤ 87658
  · by_cases c2 : 0 ≤ b ∧ b ≤ 87658
    · rw [decide_eq_true c1, decide_eq_true c2, if_pos rfl, if_pos rfl, decide_eq_true (by omega), if_pos rfl]
    · rw [decide_eq_true c1, decide_eq_false c2, if_pos rfl, if_neg (by simp), if_pos trivial]
  · rw [decide_eq_false c1, if_neg (by simp), if_pos trivial]
theorem whole_both (a b : Int) : ∃ r, ∀ k, 3000 ≤ k → due_Whole.f k a b = some r ∧ annuityref05_Whole.f k a b = some r := by
  by_cases h : a < 0 ∨ 87658 < a ∨ b < 0 ∨ 87658 < b ∨ b < a
  · exact ⟨0, fun k hk => ⟨due_Whole_no a b k h (by omega), ref_Whole_no a b k h (by omega)⟩⟩
  · obtain ⟨m, hm, h1, h2⟩ := mo_ex a (by omega) (by omega)
    obtain ⟨n, hn, g1, g2⟩ := mo_ex b (by omega) (by omega)
    exact ⟨_, fun k hk => ⟨due_Whole_ok m n k a b hm h1 h2 hn g1 g2 (by omega) (by omega), ref_Whole_ok m n k a b hm h1 h2 hn g1 g2 (by omega) hk⟩⟩
theorem st0 : st 0 = 0 := rfl
theorem st1 : st 1 = 31 := by decide +kernel
theorem st2 : st 2 = 60 := by decide +kernel
theorem st12 : st 13 = 397 := by decide +kernel
theorem st14 : st 14 = 425 := by decide +kernel
theorem wakes05 (k : Nat) (hk : 3000 ≤ k) : annuitylaw05_wakes.f k = some true := by
  have e1 : due_Year.f k 59 1 = some (424, 0) := by
    rw [due_Year_is, if_neg (by omega), date_Add_ok 1 13 k 59 _ (by omega) (by rw [st1]; omega) (by rw [st2]; omega) (by omega) (by omega) (by omega)]
    have h : dm 13 = 28 := by decide +kernel
    unfold inMonth; rw [st1, st12, h]; rfl
  have e2 : due_Months.f k 0 31 = some [1] := by
    rw [due_Months_ok 0 31 1 1 k (by omega) (by omega) (by omega) (by rw [st1]; omega) (by rw [st2]; omega) (.inr ⟨0, rfl, by omega, by rw [st0]; omega, by rw [st1]; omega⟩) hk]
    rfl
  have e3 : due_Late.f k 1 50 = some 4 := by
    refine (due_Late_ok 1 k 50 (by omega) (by omega)).trans ?_; unfold lateS; rw [st1]; rfl
  have e4 : due_InTime.f k 1 46 = some true := by
    refine (due_InTime_ok 1 k 46 (by omega) (by omega)).trans ?_; rw [st1]; rfl
  have e5 : due_InTime.f k 1 47 = some false := by
    refine (due_InTime_ok 1 k 47 (by omega) (by omega)).trans ?_; rw [st1]; rfl
  have e6 : due_Whole.f k 30 58 = some 0 := by
    rw [due_Whole_ok 0 1 k 30 58 (by omega) (by rw [st0]; omega) (by rw [st1]; omega) (by omega) (by rw [st1]; omega) (by rw [st2]; omega) (by omega) (by omega)]
    have h : dm 1 = 29 := by decide +kernel
    unfold wholeS inMonth; rw [st0, st1, h]; rfl
  have e7 : due_Whole.f k 30 59 = some 1 := by
    rw [due_Whole_ok 0 1 k 30 59 (by omega) (by rw [st0]; omega) (by rw [st1]; omega) (by omega) (by rw [st1]; omega) (by rw [st2]; omega) (by omega) (by omega)]
    have h : dm 1 = 29 := by decide +kernel
    unfold wholeS inMonth; rw [st0, st1, h]; rfl
  unfold annuitylaw05_wakes.f
  rw [e1, e2]
  simp only [obind]
  rw [keep_Ints_same [1] k (by simp) (by simp; omega)]
  simp only [obind, if_true]
  rw [e3]
  simp only [obind, if_true]
  rw [e4]
  simp only [obind, if_true]
  rw [e5]
  simp only [obind]
  rw [if_neg (by simp), e6]
  simp only [obind, if_true]
  rw [e7]
  rfl
end Go.Proofs.Ytgogccjfoclakaa.Pure
