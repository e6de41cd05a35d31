/- Sums of money, the program's and the reference's, in plain numbers, for every list that is not too long to be there. -/
import Derived.Test.YtakcepffodipfaaPx3
import Derived.Test.YtakcepffodipfaaPx14
import Derived.Test.YtakcepffodipfaaMoneyLaws
namespace Go.Proofs.Ytakcepffodipfaa.Pure
set_option linter.unusedVariables false
open Go.RowKit Go.Proofs.Ytakcepffodipfaa.P Go.Proofs.YtakcepffodipfaaW.PrintWords Go.Proofs.YtakcepffodipfaaW.PrintLast Go.Proofs.YtakcepffodipfaaW.PrintMore Go.Proofs.Ytakcepffodipfaa.PlainM
theorem isMoney_is (a : Int) : isMoney a = decide (-10000000000000 ≤ a ∧ a ≤ 10000000000000) := rfl
/-- Two numbers of money together. -/
def addS (a b : Int) : Int × Int := if (isMoney a && (isMoney b && isMoney (a + b))) = true then (a + b, 0) else (0, 14)
theorem isMoney_bd {a : Int} (h : isMoney a = true) : -10000000000000 ≤ a ∧ a ≤ 10000000000000 := by simpa [isMoney] using h
theorem money_Add_is (a b : Int) : money_Add.f a b = some (addS a b) := by
  unfold money_Add.f money_Sum.f
  rw [if_pos (by simp)]
  simp only [obind]
  congr 1
  show money_Sum.go [a, b] 0 = addS a b
  unfold addS
  simp only [money_Sum.go]
  rw [show isMoney 0 = true by decide, Bool.true_and, Int.zero_add]
  cases h1 : isMoney a
  · simp
  · cases h2 : isMoney b
    · simp
    · simp
theorem ref_mAdd_is (a b : Int) : annuityref01_Add.f a b = some (addS a b) := by
  unfold annuityref01_Add.f addS
  simp only [ref_mGood_is, ← isMoney_is, obind]
  cases h1 : isMoney a
  · simp
  · cases h2 : isMoney b
    · simp
    · have b1 := isMoney_bd h1; have b2 := isMoney_bd h2
      rw [w64 (by omega) (by omega)]
      cases h3 : isMoney (a + b) <;> simp
theorem rd_at (l : List Int) (j : Nat) (h : j < l.length) : l.drop j = rd l j :: l.drop (j + 1) := by
  rw [List.drop_eq_getElem_cons h]; congr 1; unfold rd; simp [List.getD_eq_getElem?_getD, h]
theorem go_err (l : List Int) (s : Int) : (money_Sum.go l s).2 = 0 ∨ money_Sum.go l s = (0, 14) := by
  induction l generalizing s with
  | nil => exact .inl rfl
  | cons a l ih => simp only [money_Sum.go]; split; exact ih _; exact .inr rfl
theorem ref_Sum_l0 (l : List Int) (hl : l.length ≤ 4611686018427387904) : ∀ (d k : Nat) (j : Nat) (s : Int), j + d = l.length → d < k →
    annuityref01_Sum.l0 k l s j = some (money_Sum.go (l.drop j) s) := by
  intro d
  induction d with
  | zero =>
    intro k j s hj hk
    obtain ⟨k, rfl⟩ : ∃ m, k = m + 1 := ⟨k - 1, by omega⟩
    simp only [annuityref01_Sum.l0]
    rw [if_neg (by omega), List.drop_of_length_le (by omega)]; rfl
  | succ d ih =>
    intro k j s hj hk
    obtain ⟨k, rfl⟩ : ∃ m, k = m + 1 := ⟨k - 1, by omega⟩
    simp only [annuityref01_Sum.l0]
    rw [if_pos (by omega), if_pos (by omega), ref_mAdd_is, rd_at l j (by omega)]
    simp only [obind, money_Sum.go, addS]
    by_cases h : (isMoney s && (isMoney (rd l j) && isMoney (s + rd l j))) = true
    · rw [if_pos h, if_pos h, if_pos rfl, w64 (by omega) (by omega)]
      exact ih k (j + 1) _ (by omega) (by omega)
    · rw [if_neg h, if_neg h, if_neg (by omega)]
theorem ref_Sum_is (l : List Int) (k : Nat) (hl : l.length ≤ 4611686018427387904) (hk : l.length < k) : annuityref01_Sum.f k l = some (money_Sum.go l 0) := by
  unfold annuityref01_Sum.f
  exact ref_Sum_l0 l hl l.length k 0 0 (by omega) hk
end Go.Proofs.Ytakcepffodipfaa.Pure
