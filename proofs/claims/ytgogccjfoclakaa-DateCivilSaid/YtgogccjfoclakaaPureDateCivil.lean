/- DateCivil: for every number the program's date, month and day of the week are the reference's, and for every month its first day; for every input. -/
import Derived.Test.YtgogccjfoclakaaPx14
import Derived.Test.YtgogccjfoclakaaDateEv
namespace Go.Proofs.Ytgogccjfoclakaa.Pure
open Go.RowKit Go.Proofs.Ytgogccjfoclakaa.P Go.Proofs.YtgogccjfoclakaaW.PrintWords Go.Proofs.YtgogccjfoclakaaW.PrintLast Go.Proofs.YtgogccjfoclakaaW.PrintMore Go.Proofs.Ytgogccjfoclakaa.Plain
theorem civ_both (n : Int) : ∃ r q, ∀ k, 2890 ≤ k → date_Civil.f k n = some r ∧ annuityref04_Civil.f k n = some r ∧ date_Month.f k n = some q ∧ annuityref04_Month.f k n = some q := by
  rcases mo_or n with h | ⟨m, hm, h1, h2⟩
  · exact ⟨_, _, fun k hk => ⟨date_Civil_no n k h, ref_Civil_no n k h, date_Month_no n k h, ref_Month_no n k h⟩⟩
  · exact ⟨_, _, fun k hk => ⟨date_Civil_ok m k n hm h1 h2 (by omega), ref_Civil_ok m k n hm h1 h2 hk, date_Month_ok m k n hm h1 h2 (by omega), ref_Month_ok m k n hm h1 h2 hk⟩⟩
theorem first_both (m : Int) : ∃ r, ∀ k, 2890 ≤ k → date_First.f k m = some r ∧ annuityref04_First.f k m = some r := by
  by_cases h : m < 0 ∨ 2880 ≤ m
  · exact ⟨_, fun k hk => ⟨date_First_no m k h, ref_First_no m k h⟩⟩
  · obtain ⟨j, rfl⟩ : ∃ j : Nat, m = j := ⟨m.toNat, by omega⟩
    exact ⟨_, fun k hk => ⟨date_First_ok j k (by omega) (by omega), ref_First_ok j k (by omega) hk⟩⟩
theorem DateCivil : annuitylaw04_DateCivil.Pure := by
  intro a0 a1 _ _
  obtain ⟨k, hk⟩ : ∃ k : Nat, 3000 ≤ k := ⟨_, Nat.le_refl _⟩
  refine ⟨k, ?_⟩
  obtain ⟨r, q, hr⟩ := civ_both a0
  obtain ⟨p, hp⟩ := first_both a1
  have h := hr k (by omega)
  have g := hp k (by omega)
  unfold annuitylaw04_DateCivil.f
  rw [h.1, h.2.1]
  simp only [obind]
  rw [h.2.2.1, h.2.2.2]
  simp only [obind, date_Week_is, ref_Week_is]
  rw [g.1, g.2]
  simp only [obind, date_Good_is, ref_Good_is]
  rw [wakes04 k (by omega)]
  simp
end Go.Proofs.Ytgogccjfoclakaa.Pure
