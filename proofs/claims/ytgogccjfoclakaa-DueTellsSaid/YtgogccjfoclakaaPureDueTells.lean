/- DueTells: whether any day is in time for any month's bill, how late it is, years on, whole months between any two days: as the reference tells; for every input. -/
import Derived.Test.YtgogccjfoclakaaPx22
import Derived.Test.YtgogccjfoclakaaDueEv
namespace Go.Proofs.Ytgogccjfoclakaa.Pure
open Go.RowKit Go.Proofs.Ytgogccjfoclakaa.P Go.Proofs.YtgogccjfoclakaaW.PrintWords Go.Proofs.YtgogccjfoclakaaW.PrintLast Go.Proofs.YtgogccjfoclakaaW.PrintMore Go.Proofs.Ytgogccjfoclakaa.Plain
theorem year_both (d n : Int) : ∃ r, ∀ k, 3000 ≤ k → due_Year.f k d n = some r ∧ annuityref05_Year.f k d n = some r := by
  by_cases h : n < 0 ∨ 240 < n
  · exact ⟨_, fun k hk => ⟨by rw [due_Year_is, if_pos h], by rw [ref_Year_is, if_pos h]⟩⟩
  · obtain ⟨r, hr⟩ := add_both d (12 * n)
    exact ⟨r, fun k hk => ⟨by rw [due_Year_is, if_neg h]; exact (hr k (by omega)).1, by rw [ref_Year_is, if_neg h]; exact (hr k (by omega)).2⟩⟩
theorem time_both (m d : Int) : ∃ r q, ∀ k, 3000 ≤ k → due_InTime.f k m d = some r ∧ annuityref05_InTime.f k m d = some r ∧ due_Late.f k m d = some q ∧ annuityref05_Late.f k m d = some q := by
  rcases first_or m with h | ⟨j, rfl, hj⟩
  · exact ⟨_, _, fun k hk => ⟨due_InTime_no m d k h, ref_InTime_no m d k h, due_Late_no m d k h, ref_Late_no m d k h⟩⟩
  · exact ⟨_, _, fun k hk => ⟨due_InTime_ok j k d hj (by omega), ref_InTime_ok j k d hj (by omega), due_Late_ok j k d hj (by omega), ref_Late_ok j k d hj (by omega)⟩⟩
theorem DueTells : annuitylaw05_DueTells.Pure := by
  intro a0 a1 a2 _ _ _
  obtain ⟨k, hk⟩ : ∃ k : Nat, 3000 ≤ k := ⟨_, Nat.le_refl _⟩
  refine ⟨k, ?_⟩
  obtain ⟨r1, h1⟩ := year_both a1 a2
  obtain ⟨r2, r3, h2⟩ := time_both a0 a1
  obtain ⟨r4, h4⟩ := whole_both a1 a2
  obtain ⟨r5, h5⟩ := whole_both a2 a1
  unfold annuitylaw05_DueTells.f
  rw [(h1 k hk).1, (h1 k hk).2, (h2 k hk).1, (h2 k hk).2.1]
  simp only [obind, beq_self_eq_true, if_true]
  rw [(h2 k hk).2.2.1, (h2 k hk).2.2.2]
  simp only [obind, if_true]
  rw [(h4 k hk).1, (h4 k hk).2]
  simp only [obind, if_true]
  rw [(h5 k hk).1, (h5 k hk).2]
  simp only [obind, if_true]
  rw [wakes05 k hk]
  rfl
end Go.Proofs.Ytgogccjfoclakaa.Pure
