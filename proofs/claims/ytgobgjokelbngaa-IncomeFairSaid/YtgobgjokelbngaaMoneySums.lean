/- Sums of money, the program's and the reference's, in plain numbers, for every list that is not too long to be there. -/
import Derived.Test.YtgobgjokelbngaaPx16
import Derived.Test.YtgobgjokelbngaaPx21
import Derived.Test.YtgobgjokelbngaaPx27
import Derived.Test.YtgobgjokelbngaaPx28
import Derived.Test.YtgobgjokelbngaaMoneyLaws
namespace Go.Proofs.Ytgobgjokelbngaa.Pure
set_option linter.unusedVariables false
open Go.RowKit Go.Proofs.Ytgobgjokelbngaa.P Go.Proofs.YtgobgjokelbngaaW.PrintWords Go.Proofs.YtgobgjokelbngaaW.PrintLast Go.Proofs.YtgobgjokelbngaaW.PrintMore Go.Proofs.Ytgobgjokelbngaa.PlainM
theorem isMoney_is (a : Int) : isMoney a = decide (-10000000000000 ≤ a ∧ a ≤ 10000000000000) := rfl
/-- Two numbers of money together. -/
def addS (a b : Int) : Int × Int := if (isMoney a && (isMoney b && isMoney (a + b))) = true then (a + b, 0) else (0, 14)
theorem isMoney_bd {a : Int} (h : isMoney a = true) : -10000000000000 ≤ a ∧ a ≤ 10000000000000 := by simpa [isMoney] using h
theorem money_Add_is (a b : Int) : money_Add.f a b = some (addS a b) := by
  unfold money_Add.f money_Sum.f
  rw [if_pos (by simp)]
  simp only [obind]
  congr 1
  show money_Sum.go [a, b] 0 = addS a b
  unfold addS
  simp only [money_Sum.go]
  rw [show isMoney 0 = true by decide, Bool.true_and, Int.zero_add]
  cases h1 : isMoney a
  · simp
  · cases h2 : isMoney b
    · simp
    · simp
theorem ref_mAdd_is (a b : Int) : annuityref01_Add.f a b = some (addS a b) := by
  unfold annuityref01_Add.f addS
  simp only [ref_mGood_is, ← isMoney_is, obind]
  cases h1 : isMoney a
  · simp
  · cases h2 : isMoney b
    · simp
    · have b1 := isMoney_bd h1; have b2 := isMoney_bd h2
      rw [w64 (by omega) (by omega)]
      cases h3 : isMoney (a + b) <;> simp
theorem isMoney_neg (a : Int) : isMoney (-a) = isMoney a := by unfold isMoney; rw [decide_eq_decide]; omega
theorem rd_at (l : List Int) (j : Nat) (h : j < l.length) : l.drop j = rd l j :: l.drop (j + 1) := by
  rw [List.drop_eq_getElem_cons h]; congr 1; unfold rd; simp [List.getD_eq_getElem?_getD, h]
theorem go_err (l : List Int) (s : Int) : (money_Sum.go l s).2 = 0 ∨ money_Sum.go l s = (0, 14) := by
  induction l generalizing s with
  | nil => exact .inl rfl
  | cons a l ih => simp only [money_Sum.go]; split; exact ih _; exact .inr rfl
theorem keep_Longs_l0 (l : List Int) (hl : l.length ≤ 4611686018427387904) : ∀ (d k : Nat) (i : Int), 0 ≤ i → i + d = l.length → d < k → annuitykeep_Longs.l0 k l l i = some true := by
  intro d
  induction d with
  | zero =>
    intro k i h0 h1 hk
    obtain ⟨k, rfl⟩ : ∃ m, k = m + 1 := ⟨k - 1, by omega⟩
    simp only [annuitykeep_Longs.l0]; rw [if_neg (by omega)]
  | succ d ih =>
    intro k i h0 h1 hk
    obtain ⟨k, rfl⟩ : ∃ m, k = m + 1 := ⟨k - 1, by omega⟩
    simp only [annuitykeep_Longs.l0]
    rw [if_pos (by omega), if_pos h0, if_pos (by omega), if_pos trivial, w64 (by omega) (by omega)]
    exact ih k (i + 1) (by omega) (by omega) (by omega)
theorem keep_Longs_same (l : List Int) (k : Nat) (hl : l.length ≤ 4611686018427387904) (hk : l.length < k) : annuitykeep_Longs.f k l l = some true := by
  unfold annuitykeep_Longs.f
  rw [if_pos rfl]
  exact keep_Longs_l0 l hl l.length k 0 (by omega) (by omega) hk
end Go.Proofs.Ytgobgjokelbngaa.Pure
