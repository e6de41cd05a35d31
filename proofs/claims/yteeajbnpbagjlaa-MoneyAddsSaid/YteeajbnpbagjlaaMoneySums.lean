/- Sums of money, the program's and the reference's, in plain numbers, for every list that is not too long to be there. -/
import Derived.Test.YteeajbnpbagjlaaPx20
import Derived.Test.YteeajbnpbagjlaaPx21
import Derived.Test.YteeajbnpbagjlaaPx22
import Derived.Test.YteeajbnpbagjlaaMoneyLaws
namespace Go.Proofs.Yteeajbnpbagjlaa.Pure
set_option linter.unusedVariables false
open Go.RowKit Go.Proofs.Yteeajbnpbagjlaa.P Go.Proofs.YteeajbnpbagjlaaW.PrintWords Go.Proofs.YteeajbnpbagjlaaW.PrintLast Go.Proofs.YteeajbnpbagjlaaW.PrintMore Go.Proofs.Yteeajbnpbagjlaa.PlainM
theorem isMoney_is (a : Int) : isMoney a = decide (-10000000000000 ≤ a ∧ a ≤ 10000000000000) := rfl
/-- Two numbers of money together. -/
def addS (a b : Int) : Int × Int := if (isMoney a && (isMoney b && isMoney (a + b))) = true then (a + b, 0) else (0, 14)
theorem isMoney_bd {a : Int} (h : isMoney a = true) : -10000000000000 ≤ a ∧ a ≤ 10000000000000 := by simpa [isMoney] using h
theorem money_Add_is (a b : Int) : money_Add.f a b = some (addS a b) := by
  unfold money_Add.f money_Sum.f
  rw [if_pos (by simp)]
  simp only [obind]
  congr 1
  show money_Sum.go [a, b] 0 = addS a b
  unfold addS
  simp only [money_Sum.go]
  rw [show isMoney 0 = true by decide, Bool.true_and, Int.zero_add]
  cases h1 : isMoney a
  · simp
  · cases h2 : isMoney b
    · simp
    · simp
theorem ref_mAdd_is (a b : Int) : annuityref01_Add.f a b = some (addS a b) := by
  unfold annuityref01_Add.f addS
  simp only [ref_mGood_is, ← isMoney_is, obind]
  cases h1 : isMoney a
  · simp
  · cases h2 : isMoney b
    · simp
    · have b1 := isMoney_bd h1; have b2 := isMoney_bd h2
      rw [w64 (by omega) (by omega)]
      cases h3 : isMoney (a + b) <;> simp
theorem isMoney_neg (a : Int) : isMoney (-a) = isMoney a := by unfold isMoney; rw [decide_eq_decide]; omega
theorem money_Sub_is (a b : Int) : money_Sub.f a b = some (addS a (-b)) := by
  unfold money_Sub.f
  simp only [money_Good_is, ← isMoney_is, obind]
  cases h2 : isMoney b
  · rw [if_neg (by simp)]; unfold addS; rw [isMoney_neg, h2]; simp
  · have b2 := isMoney_bd h2
    rw [if_pos rfl, w64 (by omega) (by omega), money_Add_is]; rfl
theorem ref_mSub_is (a b : Int) : annuityref01_Sub.f a b = some (addS a (-b)) := by
  unfold annuityref01_Sub.f addS
  simp only [ref_mGood_is, ← isMoney_is, obind]
  rw [isMoney_neg]
  cases h1 : isMoney a
  · simp
  · cases h2 : isMoney b
    · simp
    · have b1 := isMoney_bd h1; have b2 := isMoney_bd h2
      rw [w64 (by omega) (by omega), Int.sub_eq_add_neg]
      cases h3 : isMoney (a + -b) <;> simp
theorem rd_at (l : List Int) (j : Nat) (h : j < l.length) : l.drop j = rd l j :: l.drop (j + 1) := by
  rw [List.drop_eq_getElem_cons h]; congr 1; unfold rd; simp [List.getD_eq_getElem?_getD, h]
theorem go_err (l : List Int) (s : Int) : (money_Sum.go l s).2 = 0 ∨ money_Sum.go l s = (0, 14) := by
  induction l generalizing s with
  | nil => exact .inl rfl
  | cons a l ih => simp only [money_Sum.go]; split; exact ih _; exact .inr rfl
theorem ref_Sum_l0 (l : List Int) (hl : l.length ≤ 4611686018427387904) : ∀ (d k : Nat) (j : Nat) (s : Int), j + d = l.length → d < k →
    annuityref01_Sum.l0 k l s j = some (money_Sum.go (l.drop j) s) := by
  intro d
  induction d with
  | zero =>
    intro k j s hj hk
    obtain ⟨k, rfl⟩ : ∃ m, k = m + 1 := ⟨k - 1, by omega⟩
    simp only [annuityref01_Sum.l0]
    rw [if_neg (by omega), List.drop_of_length_le (by omega)]; rfl
  | succ d ih =>
    intro k j s hj hk
    obtain ⟨k, rfl⟩ : ∃ m, k = m + 1 := ⟨k - 1, by omega⟩
    simp only [annuityref01_Sum.l0]
    rw [if_pos (by omega), if_pos (by omega), ref_mAdd_is, rd_at l j (by omega)]
    simp only [obind, money_Sum.go, addS]
    by_cases h : (isMoney s && (isMoney (rd l j) && isMoney (s + rd l j))) = true
    · rw [if_pos h, if_pos h, if_pos rfl, w64 (by omega) (by omega)]
      exact ih k (j + 1) _ (by omega) (by omega)
    · rw [if_neg h, if_neg h, if_neg (by omega)]
theorem ref_Sum_is (l : List Int) (k : Nat) (hl : l.length ≤ 4611686018427387904) (hk : l.length < k) : annuityref01_Sum.f k l = some (money_Sum.go l 0) := by
  unfold annuityref01_Sum.f
  exact ref_Sum_l0 l hl l.length k 0 0 (by omega) hk
theorem keep_Longs_l0 (l : List Int) (hl : l.length ≤ 4611686018427387904) : ∀ (d k : Nat) (i : Int), 0 ≤ i → i + d = l.length → d < k → annuitykeep_Longs.l0 k l l i = some true := by
  intro d
  induction d with
  | zero =>
    intro k i h0 h1 hk
    obtain ⟨k, rfl⟩ : ∃ m, k = m + 1 := ⟨k - 1, by omega⟩
    simp only [annuitykeep_Longs.l0]; rw [if_neg (by omega)]
  | succ d ih =>
    intro k i h0 h1 hk
    obtain ⟨k, rfl⟩ : ∃ m, k = m + 1 := ⟨k - 1, by omega⟩
    simp only [annuitykeep_Longs.l0]
    rw [if_pos (by omega), if_pos h0, if_pos (by omega), if_pos trivial, w64 (by omega) (by omega)]
    exact ih k (i + 1) (by omega) (by omega) (by omega)
theorem keep_Longs_same (l : List Int) (k : Nat) (hl : l.length ≤ 4611686018427387904) (hk : l.length < k) : annuitykeep_Longs.f k l l = some true := by
  unfold annuitykeep_Longs.f
  rw [if_pos rfl]
  exact keep_Longs_l0 l hl l.length k 0 (by omega) (by omega) hk
end Go.Proofs.Yteeajbnpbagjlaa.Pure
