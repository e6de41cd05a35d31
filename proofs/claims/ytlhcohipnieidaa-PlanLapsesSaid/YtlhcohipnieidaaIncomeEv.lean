/- What the functions on incomes, the program's and the reference's, come to, in plain numbers, for every number of rounds that is large enough. -/
import Derived.Test.YtlhcohipnieidaaPx25
import Derived.Test.YtlhcohipnieidaaMoneySums
namespace Go.Proofs.Ytlhcohipnieidaa.PureIn
set_option linter.unusedVariables false
open Go.RowKit Go.Proofs.Ytlhcohipnieidaa.P Go.Proofs.YtlhcohipnieidaaW.PrintWords Go.Proofs.YtlhcohipnieidaaW.PrintLast Go.Proofs.YtlhcohipnieidaaW.PrintMore Go.Proofs.Ytlhcohipnieidaa.PlainM Go.Proofs.Ytlhcohipnieidaa.Pure

/-- From a least number on, never falling, and none too great. -/
def upFrom : List Int → Int → Bool
  | [], _ => true
  | x :: l, s => decide (s ≤ x) && (decide (x ≤ 1000000000) && upFrom l x)
/-- Is a table good? -/
def goodT (l : List Int) : Bool := decide (1 ≤ l.length ∧ l.length ≤ 30) && upFrom l 0
theorem income_Good_l0 (l : List Int) (hl : l.length ≤ 4611686018427387904) : ∀ (d k : Nat) (j : Nat) (s : Int), j + d = l.length → d < k → income_Good.l0 k s l l.length j = some (upFrom (l.drop j) s) := by
  intro d
  induction d with
  | zero =>
    intro k j s hj hk
    obtain ⟨k, rfl⟩ : ∃ m, k = m + 1 := ⟨k - 1, by omega⟩
    simp only [income_Good.l0]
    rw [if_neg (by omega), List.drop_of_length_le (by omega)]; rfl
  | succ d ih =>
    intro k j s hj hk
    obtain ⟨k, rfl⟩ : ∃ m, k = m + 1 := ⟨k - 1, by omega⟩
    simp only [income_Good.l0]
    rw [if_pos (by omega), if_pos (by omega), if_pos (by omega), rd_at l j (by omega)]
    simp only [upFrom]
    by_cases c1 : rd l j < s
    · rw [if_pos c1, decide_eq_false (by omega), Bool.false_and]
    · rw [if_neg c1, decide_eq_true (by omega), Bool.true_and]
      by_cases c2 : rd l j > 1000000000
      · rw [if_pos c2, decide_eq_false (by omega), Bool.false_and]
      · rw [if_neg c2, decide_eq_true (by omega), Bool.true_and, w64 (by omega) (by omega)]
        exact ih k (j + 1) _ (by omega) (by omega)
theorem income_Good_is (l : List Int) (k : Nat) (hl : l.length ≤ 4611686018427387904) (hk : 40 ≤ k) : income_Good.f k l = some (goodT l) := by
  obtain ⟨k, rfl⟩ : ∃ m, k = m + 1 := ⟨k - 1, by omega⟩
  unfold income_Good.f goodT
  simp only [income_Good.j0]
  by_cases c1 : (l.length : Int) < 1
  · rw [if_pos c1, if_pos trivial, decide_eq_false (by omega), Bool.false_and]
  · rw [if_neg c1]
    by_cases c2 : (l.length : Int) > 30
    · rw [if_pos (decide_eq_true c2), decide_eq_false (by omega), Bool.false_and]
    · rw [if_neg (by simpa using c2), decide_eq_true (by omega), Bool.true_and]
      exact income_Good_l0 l hl l.length k 0 0 (by omega) (by omega)
theorem upFrom_rd : ∀ (l : List Int) (s : Int), upFrom l s = true → ∀ j : Nat, j < l.length → s ≤ rd l j ∧ rd l j ≤ 1000000000
  | [], _, _, _, h => absurd h (by simp)
  | x :: l, s, hu, 0, _ => by
    simp only [upFrom, Bool.and_eq_true, decide_eq_true_eq] at hu
    exact ⟨hu.1, hu.2.1⟩
  | x :: l, s, hu, j + 1, hj => by
    simp only [upFrom, Bool.and_eq_true, decide_eq_true_eq] at hu
    have := upFrom_rd l x hu.2.2 j (by simpa using hj)
    have e : rd (x :: l) ((j + 1 : Nat) : Int) = rd l (j : Int) := by unfold rd; simp
    rw [e]; omega
theorem income_least_is (a n : Int) (k : Nat) (hk : 3 ≤ k) : income_least.f k a [n] = some (mn a n) := by
  obtain ⟨k, rfl⟩ : ∃ m, k = m + 2 := ⟨k - 2, by omega⟩
  unfold income_least.f
  simp only [income_least.l0, List.length_singleton]
  rw [if_pos (by omega), if_pos (by omega), if_pos (by omega), w64 (e := 0 + 1) (by omega) (by omega), if_neg (by omega)]
  rfl
/-- The line of a family. -/
def lineS (l : List Int) (n : Int) : Int × Int := if goodT l = true ∧ 1 ≤ n ∧ n ≤ 30 then mdS (rd l (mn n l.length - 1)) 3 2 1 else (0, 1)
/-- What is free. -/
def freeS (l : List Int) (n x : Int) : Int × Int := if (lineS l n).2 = 0 ∧ 0 ≤ x ∧ x ≤ 1000000000 then (mx (x - (lineS l n).1) 0, 0) else (0, 1)
/-- What is asked. -/
def askS (l : List Int) (n x : Int) : Int × Int := if (freeS l n x).2 = 0 then mdS (freeS l n x).1 1 120 2 else (0, (freeS l n x).2)
theorem at_line {l : List Int} {n : Int} (hg : goodT l = true) (h1 : 1 ≤ n) (h2 : n ≤ 30) : 0 ≤ mn n l.length - 1 ∧ mn n l.length - 1 < l.length ∧ mn n l.length ≤ 30 ∧ 0 ≤ rd l (mn n l.length - 1) ∧ rd l (mn n l.length - 1) ≤ 1000000000 := by
  unfold goodT at hg
  simp only [Bool.and_eq_true, decide_eq_true_eq] at hg
  obtain ⟨⟨h3, h4⟩, hu⟩ := hg
  have hm : 0 ≤ mn n l.length - 1 ∧ mn n l.length - 1 < l.length ∧ mn n l.length ≤ 30 := by rw [mn_is]; split <;> omega
  have := upFrom_rd l 0 hu (mn n l.length - 1).toNat (by omega)
  rw [Int.toNat_of_nonneg hm.1] at this
  exact ⟨hm.1, hm.2.1, hm.2.2, this.1, this.2⟩
theorem line_bd {l : List Int} {n : Int} (h : (lineS l n).2 = 0) : goodT l = true ∧ (1 ≤ n ∧ n ≤ 30) ∧ lineS l n = (rq (rd l (mn n l.length - 1) * 3) 2 1, 0) ∧ 0 ≤ (lineS l n).1 ∧ (lineS l n).1 ≤ 1500000001 := by
  unfold lineS at *
  by_cases c : goodT l = true ∧ 1 ≤ n ∧ n ≤ 30
  · rw [if_pos c] at h ⊢
    obtain ⟨a1, a2, a3, a4, a5⟩ := at_line c.1 c.2.1 c.2.2
    rw [mdS_rq _ 3 2 1 a4 (by omega) (by omega) (by omega) (by omega) (by omega)]
    refine ⟨c.1, c.2, rfl, ?_⟩
    rw [rq1]
    simp only
    split <;> omega
  · rw [if_neg c] at h; simp at h
theorem income_Line_is (l : List Int) (n : Int) (k : Nat) (hl : l.length ≤ 4611686018427387904) (hk : 100 ≤ k) : income_Line.f k l n = some (lineS l n) := by
  obtain ⟨k, rfl⟩ : ∃ m, k = m + 1 := ⟨k - 1, by omega⟩
  unfold income_Line.f
  rw [income_Good_is l (k + 1) hl (by omega)]
  simp only [income_Line.j0, obind]
  rw [income_least_is n l.length k (by omega)]
  simp only [obind]
  by_cases hg : goodT l = true
  · rw [if_pos hg]
    by_cases c1 : n < 1
    · rw [if_pos c1, if_pos trivial]; unfold lineS; rw [if_neg (by omega)]
    · rw [if_neg c1]
      by_cases c2 : n > 30
      · rw [if_pos (decide_eq_true c2)]; unfold lineS; rw [if_neg (by omega)]
      · obtain ⟨a1, a2, a3, a4, a5⟩ := at_line hg (by omega : 1 ≤ n) (by omega)
        rw [if_neg (by simpa using c2), w64 (by omega) (by omega), if_pos a1, if_pos a2, money_MulDiv_is _ _ _ _ k (by omega) (by omega) (by omega) (by omega)]
        unfold lineS
        rw [if_pos ⟨hg, by omega, by omega⟩]; rfl
  · rw [if_neg hg, if_pos trivial]; unfold lineS; rw [if_neg (fun h => hg h.1)]
theorem income_Free_is (l : List Int) (n x : Int) (k : Nat) (hl : l.length ≤ 4611686018427387904) (hk : 100 ≤ k) : income_Free.f k l n x = some (freeS l n x) := by
  unfold income_Free.f
  rw [income_Line_is l n k hl (by omega)]
  simp only [obind]
  unfold freeS
  by_cases c : (lineS l n).2 = 0
  · obtain ⟨b1, b2, b3, b4, b5⟩ := line_bd c
    rw [if_pos c]
    by_cases c1 : x < 0
    · rw [if_pos c1, if_neg (by omega)]
    · rw [if_neg c1]
      by_cases c2 : x > 1000000000
      · rw [if_pos c2, if_neg (by omega)]
      · rw [if_neg c2, if_pos ⟨c, by omega, by omega⟩, w64 (by omega) (by omega)]
  · rw [if_neg c, if_neg (fun h => c h.1)]
theorem free_bd {l : List Int} {n x : Int} (h : (freeS l n x).2 = 0) : 0 ≤ (freeS l n x).1 ∧ (freeS l n x).1 ≤ 1000000000 := by
  unfold freeS at *
  by_cases c : (lineS l n).2 = 0 ∧ 0 ≤ x ∧ x ≤ 1000000000
  · obtain ⟨b1, b2, b3, b4, b5⟩ := line_bd c.1
    rw [if_pos c]
    simp only
    rw [mx_is]; split <;> omega
  · rw [if_neg c] at h; simp at h
theorem income_Ask_is (l : List Int) (n x : Int) (k : Nat) (hl : l.length ≤ 4611686018427387904) (hk : 100 ≤ k) : income_Ask.f k l n x = some (askS l n x) := by
  unfold income_Ask.f
  rw [income_Free_is l n x k hl hk]
  simp only [obind]
  unfold askS
  by_cases c : (freeS l n x).2 = 0
  · have := free_bd c
    rw [if_pos c, if_pos c, money_MulDiv_is _ _ _ _ k (by omega) (by omega) (by omega) (by omega)]; rfl
  · rw [if_neg c, if_neg c]
end Go.Proofs.Ytlhcohipnieidaa.PureIn
