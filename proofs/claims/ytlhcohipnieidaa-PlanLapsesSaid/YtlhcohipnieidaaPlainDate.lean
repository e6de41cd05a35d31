/- Plain numbers of the calendar: how long years and months are, the first day of each month, the month of each day; no condition. -/
import Derived.RowKit
namespace Go.Proofs.Ytlhcohipnieidaa.Plain
open Go Go.RowKit

theorem w64 {e : Int} (h : -9223372036854775808 ≤ e) (h' : e ≤ 9223372036854775807) : wrap64 e = e := by unfold wrap64; omega
/-- (Not by sight alone: so that Lean's kernel is never asked to see it.) -/
theorem obind {α β : Type} (a : α) (f : α → Option β) : (some a).bind f = f a := (Option.bind_some a f).trans (Eq.refl (f a))
theorem wfu8 {n : Int} (h : (Lit.int .u8 n).wf = true) : 0 ≤ n ∧ n ≤ 255 := by
  simp only [Lit.wf, Bool.and_eq_true, decide_eq_true_eq] at h; exact h
theorem tdiv_nn {x n : Int} (h : 0 ≤ x) : Int.tdiv x n = x / n := Int.tdiv_eq_ediv_of_nonneg h
theorem tmod_nn {x n : Int} (h : 0 ≤ x) : Int.tmod x n = x % n := Int.tmod_eq_emod_of_nonneg h
theorem tmod_zero (x n : Int) : Int.tmod x n = 0 ↔ x % n = 0 := by
  rw [← Int.dvd_iff_tmod_eq_zero, ← Int.dvd_iff_emod_eq_zero]

def lg (y : Int) : Bool := decide (y % 4 = 0 ∧ y % 100 ≠ 0 ∨ y % 400 = 0)
def dd (y m : Int) : Int := if m < 1 then 0 else if m > 12 then 0 else if m = 2 then (if lg y = true then 29 else 28) else if m = 4 then 30 else if m = 6 then 30 else if m = 9 then 30 else if m = 11 then 30 else 31
def dm (m : Nat) : Int := dd (1960 + (m : Int) / 12) (1 + (m : Int) % 12)
def st : Nat → Int
  | 0 => 0
  | m + 1 => st m + dm m
def yr (y : Int) : Int := (y - 1960) * 365 + ((y - 1) / 4 - (y - 1) / 100 + (y - 1) / 400) - 474

theorem dd_le (y m : Int) : dd y m ≤ 31 := by unfold dd; (repeat' split) <;> omega
theorem dd_nn (y m : Int) : 0 ≤ dd y m := by unfold dd; (repeat' split) <;> omega
theorem dd_ge (y m : Int) (h : 1 ≤ m) (h' : m ≤ 12) : 28 ≤ dd y m := by unfold dd; (repeat' split) <;> omega
theorem dm_ge (m : Nat) : 28 ≤ dm m := dd_ge _ _ (by omega) (by omega)
theorem yr_succ (y : Int) : yr (y + 1) = yr y + 365 + (if lg y = true then 1 else 0) := by
  unfold yr lg
  by_cases h : y % 4 = 0 ∧ y % 100 ≠ 0 ∨ y % 400 = 0
  · rw [if_pos (by simpa using h)]; omega
  · rw [if_neg (by simpa using h)]; omega
theorem dm_at (n j : Nat) (h : j < 12) : dm (12 * n + j) = dd (1960 + n) (1 + j) := by
  unfold dm
  have h1 : ((12 * n + j : Nat) : Int) / 12 = n := by omega
  have h2 : ((12 * n + j : Nat) : Int) % 12 = j := by omega
  rw [h1, h2]
theorem st_12 : ∀ n : Nat, st (12 * n) = yr (1960 + n)
  | 0 => by decide +kernel
  | n + 1 => by
    have e : 12 * (n + 1) = 12 * n + 1 + 1 + 1 + 1 + 1 + 1 + 1 + 1 + 1 + 1 + 1 + 1 := by omega
    rw [e]
    have f : ((n + 1 : Nat) : Int) = (n : Int) + 1 := by omega
    rw [show (1960 + ((n + 1 : Nat) : Int)) = (1960 + (n : Int)) + 1 by omega, yr_succ, ← st_12 n]
    simp only [st]
    have a0 := dm_at n 0 (by omega); have a1 := dm_at n 1 (by omega); have a2 := dm_at n 2 (by omega); have a3 := dm_at n 3 (by omega)
    have a4 := dm_at n 4 (by omega); have a5 := dm_at n 5 (by omega); have a6 := dm_at n 6 (by omega); have a7 := dm_at n 7 (by omega)
    have a8 := dm_at n 8 (by omega); have a9 := dm_at n 9 (by omega); have a10 := dm_at n 10 (by omega); have a11 := dm_at n 11 (by omega)
    simp only [Nat.add_assoc, Nat.reduceAdd, Nat.add_zero] at *
    rw [a0, a1, a2, a3, a4, a5, a6, a7, a8, a9, a10, a11]
    simp only [dd]
    simp
    split <;> omega
theorem st_lt (m : Nat) : st m + 28 ≤ st (m + 1) := by have := dm_ge m; simp only [st]; omega
theorem st_add (m d : Nat) : st m + 28 * d ≤ st (m + d) := by
  induction d with
  | zero => simp
  | succ d ih => have := st_lt (m + d); rw [← Nat.add_assoc]; omega
theorem st_mono {a b : Nat} (h : a ≤ b) : st a ≤ st b := by
  have := st_add a (b - a); rw [show a + (b - a) = b by omega] at this; omega
theorem st_nn (m : Nat) : 0 ≤ st m := by have := st_mono (Nat.zero_le m); simpa [st] using this
theorem st_last : st 2880 = 87659 := by
  rw [show 2880 = 12 * 240 by rfl, st_12]; decide +kernel
theorem st_up (m : Nat) (h : m ≤ 2880) : st m ≤ 87659 := by have := st_mono h; rw [st_last] at this; exact this
/-- The month of a day. -/
theorem mo_ex (n : Int) (h0 : 0 ≤ n) (h1 : n ≤ 87658) : ∃ m : Nat, m < 2880 ∧ st m ≤ n ∧ n < st (m + 1) := by
  have key : ∀ k : Nat, n < st k → ∃ m : Nat, m < k ∧ st m ≤ n ∧ n < st (m + 1) := by
    intro k
    induction k with
    | zero => intro h; simp [st] at h; omega
    | succ k ih =>
      intro h
      by_cases c : n < st k
      · obtain ⟨m, hm, h'⟩ := ih c; exact ⟨m, by omega, h'⟩
      · exact ⟨k, by omega, by omega, h⟩
  exact key 2880 (by rw [st_last]; omega)
theorem mod_lt (k n : Int) (hn : 0 < n) : 0 ≤ k % n ∧ k % n < n := ⟨Int.emod_nonneg _ (by omega), Int.emod_lt_of_pos _ hn⟩
end Go.Proofs.Ytlhcohipnieidaa.Plain
