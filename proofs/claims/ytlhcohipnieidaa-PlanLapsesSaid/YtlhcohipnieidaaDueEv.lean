/- What the functions on due dates, the program's and the reference's, come to, in plain numbers, for every number of rounds that is large enough. -/
import Derived.Test.YtlhcohipnieidaaPx18
import Derived.Test.YtlhcohipnieidaaPx31
import Derived.Test.YtlhcohipnieidaaDateEv
namespace Go.Proofs.Ytlhcohipnieidaa.PureD
open Go.RowKit Go.Proofs.Ytlhcohipnieidaa.P Go.Proofs.YtlhcohipnieidaaW.PrintWords Go.Proofs.YtlhcohipnieidaaW.PrintLast Go.Proofs.YtlhcohipnieidaaW.PrintMore Go.Proofs.Ytlhcohipnieidaa.Plain

theorem keep_Ints_l0 (l : List Int) (hl : l.length ≤ 4611686018427387904) : ∀ (d k : Nat) (i : Int), 0 ≤ i → i + d = l.length → d < k → annuitykeep_Ints.l0 k l l i = some true := by
  intro d
  induction d with
  | zero =>
    intro k i h0 h1 hk
    obtain ⟨k, rfl⟩ : ∃ m, k = m + 1 := ⟨k - 1, by omega⟩
    simp only [annuitykeep_Ints.l0]; rw [if_neg (by omega)]
  | succ d ih =>
    intro k i h0 h1 hk
    obtain ⟨k, rfl⟩ : ∃ m, k = m + 1 := ⟨k - 1, by omega⟩
    simp only [annuitykeep_Ints.l0]
    rw [if_pos (by omega), if_pos h0, if_pos (by omega), if_pos trivial, w64 (by omega) (by omega)]
    exact ih k (i + 1) (by omega) (by omega) (by omega)
theorem keep_Ints_same (l : List Int) (k : Nat) (hl : l.length ≤ 4611686018427387904) (hk : l.length < k) : annuitykeep_Ints.f k l l = some true := by
  unfold annuitykeep_Ints.f
  rw [if_pos rfl]
  exact keep_Ints_l0 l hl l.length k 0 (by omega) (by omega) hk

/-- So many numbers from a on. -/
def run (a n : Nat) : List Int := (List.range n).map fun i => ((a + i : Nat) : Int)
/-- The first month whose first day is later than a day. -/
structure After (from_ : Int) (at_ : Nat) : Prop where
  is : ∀ m : Nat, m ≤ 2880 → (from_ < st m ↔ at_ ≤ m)
  le : at_ ≤ 2880
theorem mx_is (a b : Int) : mx a b = if a ≤ b then b else a := by unfold mx; split <;> split <;> omega
/-- Whole months between a day of the month m and a day of the month n. -/
def wholeS (m n : Nat) (a b : Int) : Int := if inMonth n (a - st m + 1) ≤ b then (n : Int) - m else (n : Int) - m - 1
theorem due_Whole_ok (m n k : Nat) (a b : Int) (hm : m < 2880) (h1 : st m ≤ a) (h2 : a < st (m + 1)) (hn : n < 2880) (g1 : st n ≤ b) (g2 : b < st (n + 1)) (hab : a ≤ b) (hk : 400 ≤ k) :
    due_Whole.f k a b = some (wholeS m n a b) := by
  obtain ⟨k, rfl⟩ : ∃ j, k = j + 1 := ⟨k - 1, by omega⟩
  have ha := mo_bd hm h1 h2; have hb := mo_bd hn g1 g2
  unfold due_Whole.f wholeS
  rw [date_Good_is, date_Good_is, decide_eq_true (by omega), decide_eq_true (by omega)]
  simp only [obind, if_true]
  rw [decide_eq_false (by omega)]
  simp only [due_Whole.j0]
  rw [if_neg (by simp), date_Month_ok m k a hm h1 h2 (by omega), date_Month_ok n k b hn g1 g2 (by omega)]
  simp only [obind]
  rw [w64 (e := (n : Int) - m) (by omega) (by omega), date_Add_ok m n k a _ hm h1 h2 hn (by omega) (by omega)]
  simp only [obind, if_true]
  rw [w64 (by omega) (by omega)]
  split <;> rfl
theorem due_Whole_no (a b : Int) (k : Nat) (h : a < 0 ∨ 87658 < a ∨ b < 0 ∨ 87658 < b ∨ b < a) (hk : 10 ≤ k) : due_Whole.f k a b = some 0 := by
  obtain ⟨k, rfl⟩ : ∃ j, k = j + 1 := ⟨k - 1, by omega⟩
  unfold due_Whole.f
  simp only [date_Good_is, obind, due_Whole.j0]
  by_cases c1 : 0 ≤ a ∧ a ≤ 87658
  · by_cases c2 : 0 ≤ b ∧ b ≤ 87658
    · rw [decide_eq_true c1, decide_eq_true c2, if_pos rfl, if_pos rfl, decide_eq_true (by omega), if_pos rfl]
    · rw [decide_eq_true c1, decide_eq_false c2, if_pos rfl, if_neg (by simp), if_pos trivial]
  · rw [decide_eq_false c1, if_neg (by simp), if_pos trivial]
end Go.Proofs.Ytlhcohipnieidaa.PureD
