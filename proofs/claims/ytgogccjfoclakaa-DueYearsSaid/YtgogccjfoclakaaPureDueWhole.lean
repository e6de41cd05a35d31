/- DueWhole: so many whole months on is not above the day, one more is; a day is late just if it is not in time; for every input. -/
import Derived.Test.YtgogccjfoclakaaPx23
import Derived.Test.YtgogccjfoclakaaDueEv
namespace Go.Proofs.Ytgogccjfoclakaa.Pure
open Go.RowKit Go.Proofs.Ytgogccjfoclakaa.P Go.Proofs.YtgogccjfoclakaaW.PrintWords Go.Proofs.YtgogccjfoclakaaW.PrintLast Go.Proofs.YtgogccjfoclakaaW.PrintMore Go.Proofs.Ytgogccjfoclakaa.Plain
theorem late_in (i : Nat) (d : Int) (hd : 0 ≤ d ∧ d ≤ 87658) : (decide (0 ≤ d ∧ d ≤ 87658 ∧ d ≤ st i + 15) == (lateS i d == 0)) = true := by
  unfold lateS
  rw [if_pos hd]
  by_cases c : d ≤ st i + 15
  · rw [decide_eq_true (by omega), if_pos (by omega)]; rfl
  · rw [decide_eq_false (by omega), if_neg (by omega)]
    simp; omega
theorem inMonth_bd (m : Nat) (d : Int) (h : 1 ≤ d) : st m ≤ inMonth m d ∧ inMonth m d < st (m + 1) := by
  have := dm_ge m
  have e : st (m + 1) = st m + dm m := rfl
  unfold inMonth; split <;> omega
theorem DueWhole : annuitylaw05_DueWhole.Pure := by
  intro a0 a1 a2 _ _ _
  obtain ⟨k, hk⟩ : ∃ k : Nat, 4000 ≤ k := ⟨_, Nat.le_refl _⟩
  refine ⟨k + 1, ?_⟩
  obtain ⟨b0, b1⟩ := mod_lt a0 87659 (by omega)
  obtain ⟨c0, c1⟩ := mod_lt a1 87659 (by omega)
  obtain ⟨d0, d1⟩ := mod_lt a2 2880 (by omega)
  unfold annuitylaw05_DueWhole.f
  rw [keep_Mod_is _ _ (by omega) (by omega), keep_Mod_is _ _ (by omega) (by omega)]
  simp only [obind]
  generalize a0 % 87659 = x at *
  generalize a1 % 87659 = y at *
  obtain ⟨f, t, e1, e2, g0, g1, g2⟩ : ∃ f t : Int, mn x y = f ∧ mx x y = t ∧ 0 ≤ f ∧ f ≤ t ∧ t ≤ 87658 := by
    refine ⟨_, _, rfl, rfl, ?_⟩
    unfold mn mx
    (repeat' split) <;> omega
  rw [e1, e2]
  obtain ⟨m, hm, m1, m2⟩ := mo_ex f (by omega) (by omega)
  obtain ⟨n, hn, n1, n2⟩ := mo_ex t (by omega) (by omega)
  have hmn : m ≤ n := Nat.le_of_not_lt fun c => by have := st_mono (show n + 1 ≤ m from c); omega
  have hj : annuitylaw05_DueWhole.j0 (k + 1) a2 f t false = some true := by
    simp only [annuitylaw05_DueWhole.j0]
    rw [if_neg (by simp), keep_Mod_is _ _ (by omega) (by omega)]
    simp only [obind]
    obtain ⟨i, hi⟩ : ∃ i : Nat, a2 % 2880 = i := ⟨(a2 % 2880).toNat, by omega⟩
    rw [hi, due_InTime_ok i k t (by omega) (by omega), due_Late_ok i k t (by omega) (by omega)]
    simp only [obind]
    rw [late_in i t (by omega), if_pos rfl]
    by_cases c : f = t
    · rw [if_pos c, wakes05 k (by omega)]; rfl
    · rw [if_neg c, due_Whole_no t f k (by omega) (by omega)]
      simp only [obind, if_true]
      rw [wakes05 k (by omega)]; rfl
  rw [due_Whole_ok m n _ f t hm m1 m2 hn n1 n2 g1 (by omega)]
  simp only [obind]
  by_cases c : inMonth n (f - st m + 1) ≤ t
  · have hw : wholeS m n f t = (n : Int) - m := by unfold wholeS; rw [if_pos c]
    rw [hw, ref_Add_ok m n _ f _ hm m1 m2 hn (by omega) (by omega), w64 (by omega) (by omega)]
    by_cases c2 : n + 1 < 2880
    · rw [ref_Add_ok m (n + 1) _ f _ hm m1 m2 c2 (by omega) (by omega)]
      simp only [obind, if_true]
      have := (inMonth_bd (n + 1) (f - st m + 1) (by omega)).1
      rw [if_neg (by omega), if_neg (by omega), decide_eq_false (by omega)]
      exact hj
    · rw [ref_Add_no m _ f _ hm m1 m2 (by omega) (by omega)]
      simp only [obind, if_true]
      rw [if_neg (by omega), if_neg (by omega), if_neg (by omega)]
      exact hj
  · have hw : wholeS m n f t = (n : Int) - m - 1 := by unfold wholeS; rw [if_neg c]
    have hlt : m < n := by
      apply Nat.lt_of_le_of_ne hmn
      intro e; subst e
      apply c; unfold inMonth
      have e : st (m + 1) = st m + dm m := rfl
      split <;> omega
    have hx := inMonth_bd (n - 1) (f - st m + 1) (by omega)
    rw [show n - 1 + 1 = n by omega] at hx
    rw [hw, ref_Add_ok m (n - 1) _ f _ hm m1 m2 (by omega) (by omega) (by omega), w64 (by omega) (by omega), ref_Add_ok m n _ f _ hm m1 m2 hn (by omega) (by omega)]
    simp only [obind, if_true]
    rw [if_neg (by omega), if_neg (by omega), decide_eq_false c]
    exact hj
end Go.Proofs.Ytgogccjfoclakaa.Pure
