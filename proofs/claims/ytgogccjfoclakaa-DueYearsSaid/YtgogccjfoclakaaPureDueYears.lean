/- DueYears: so many years on are just twelve times as many whole months; no years on is the day itself; the bill of a month falls due on its first day, and is in time up to fifteen days behind it; for every input. -/
import Derived.Test.YtgogccjfoclakaaPx24
import Derived.Test.YtgogccjfoclakaaPureDueParts
import Derived.Test.YtgogccjfoclakaaPureDueWhole
namespace Go.Proofs.Ytgogccjfoclakaa.Pure
open Go.RowKit Go.Proofs.Ytgogccjfoclakaa.P Go.Proofs.YtgogccjfoclakaaW.PrintWords Go.Proofs.YtgogccjfoclakaaW.PrintLast Go.Proofs.YtgogccjfoclakaaW.PrintMore Go.Proofs.Ytgogccjfoclakaa.Plain
theorem DueYears : annuitylaw05_DueYears.Pure := by
  intro a0 a1 a2 _ _ _
  obtain ⟨k, hk⟩ : ∃ k : Nat, 4000 ≤ k := ⟨_, Nat.le_refl _⟩
  refine ⟨k + 2, ?_⟩
  obtain ⟨b0, b1⟩ := mod_lt a0 87659 (by omega)
  obtain ⟨c0, c1⟩ := mod_lt a1 241 (by omega)
  obtain ⟨d0, d1⟩ := mod_lt a2 2879 (by omega)
  unfold annuitylaw05_DueYears.f
  rw [keep_Mod_is _ _ (by omega) (by omega), keep_Mod_is _ _ (by omega) (by omega)]
  simp only [obind]
  generalize a0 % 87659 = d at *
  generalize a1 % 241 = n at *
  obtain ⟨m, hm, m1, m2⟩ := mo_ex d (by omega) (by omega)
  have es : st (m + 1) = st m + dm m := rfl
  have hj1 : annuitylaw05_DueYears.j1 (k + 1) a2 false = some true := by
    simp only [annuitylaw05_DueYears.j1]
    rw [if_neg (by simp), keep_Mod_is _ _ (by omega) (by omega)]
    simp only [obind]
    obtain ⟨i, hi⟩ : ∃ i : Nat, a2 % 2879 = i := ⟨(a2 % 2879).toNat, by omega⟩
    have hi' : i < 2879 := by omega
    have := st_nn i; have := st_smono (show i < i + 1 by omega); have := st_up (i + 1) (by omega)
    rw [hi, ref_First_ok i k (by omega) (by omega)]
    simp only [obind, if_true]
    rw [w64 (e := st i + 15) (by omega) (by omega), w64 (e := st i + 16) (by omega) (by omega), w64 (e := st i + 18) (by omega) (by omega), w64 (e := st i - 1) (by omega) (by omega), due_InTime_ok i k _ (by omega) (by omega), due_InTime_ok i k _ (by omega) (by omega), due_Late_ok i k _ (by omega) (by omega), due_Late_ok i k _ (by omega) (by omega)]
    simp only [obind]
    have l1 : lateS i (st i + 15) = 0 := by unfold lateS; rw [if_pos (by omega), if_pos (by omega)]
    have l2 : lateS i (st i + 18) = 3 := by unfold lateS; rw [if_pos (by omega), if_neg (by omega)]; omega
    rw [l1, l2, if_pos (decide_eq_true (by omega)), if_neg (by simp), if_pos rfl, if_pos rfl]
    have hl : due_Months.f k (st i - 1) (st i) = some [(i : Int)] := by
      by_cases c : i = 0
      · subst c
        have := due_Months_ok (-1) 0 0 0 k (by omega) (by omega) (by omega) (by rw [st0]; omega) (by rw [st1]; omega) (.inl ⟨rfl, rfl⟩) (by omega)
        exact this
      · obtain ⟨p, rfl⟩ : ∃ p, i = p + 1 := ⟨i - 1, by omega⟩
        have := st_smono (show p < p + 1 by omega); have := st_nn p
        have := due_Months_ok (st (p + 1) - 1) (st (p + 1)) (p + 1) (p + 1) k (by omega) (by omega) (by omega) (by omega) (by omega) (.inr ⟨p, rfl, by omega, by omega, by omega⟩) (by omega)
        rw [this, show p + 1 + 1 - (p + 1) = 1 by omega]
        rfl
    rw [hl]
    simp only [obind]
    rw [keep_Ints_same [(i : Int)] k (by simp) (by simp; omega)]
    simp only [obind, if_true]
    rw [wakes05 k (by omega)]; rfl
  rw [due_Year_is, if_neg (by omega), due_Year_is, if_neg (by omega)]
  have h0 : date_Add.f (k + 2) d (12 * 0) = some (d, 0) := by
    rw [date_Add_ok m m _ d _ hm m1 m2 hm (by omega) (by omega)]
    unfold inMonth
    rw [if_pos (by omega), show st m + (d - st m + 1) - 1 = d by omega]
  rw [h0]
  simp only [obind, if_true, bne_self_eq_false]
  by_cases c : (m : Int) + 12 * n < 0 ∨ 2880 ≤ (m : Int) + 12 * n
  · rw [date_Add_no m _ d _ hm m1 m2 c (by omega)]
    simp only [obind, annuitylaw05_DueYears.j0]
    rw [if_neg (by simp), if_neg (by omega)]
    exact hj1
  · obtain ⟨a, ha⟩ : ∃ a : Nat, (m : Int) + 12 * n = a := ⟨m + (12 * n).toNat, by omega⟩
    have ha' : a < 2880 := by omega
    have ib := inMonth_bd a (d - st m + 1) (by omega)
    rw [date_Add_ok m a _ d _ hm m1 m2 ha' ha (by omega)]
    simp only [obind, annuitylaw05_DueYears.j0, if_true]
    have hle : d ≤ inMonth a (d - st m + 1) := by
      by_cases c2 : m = a
      · subst c2; unfold inMonth; rw [if_pos (by omega)]; omega
      · have := st_mono (show m + 1 ≤ a by omega); omega
    rw [if_neg (by simp), due_Whole_ok m a _ d _ hm m1 m2 ha' ib.1 ib.2 hle (by omega)]
    simp only [obind]
    have hw : wholeS m a d (inMonth a (d - st m + 1)) = 12 * n := by unfold wholeS; rw [if_pos (by omega)]; omega
    rw [hw, w64 (by omega) (by omega), bne_self_eq_false]
    exact hj1
end Go.Proofs.Ytgogccjfoclakaa.Pure
