/- DateBack: the number of a number's date is it; the next day is the month's next one or the next month's first one; weeks go on; for every input. -/
import Derived.Test.YtgogccjfoclakaaPx11
import Derived.Test.YtgogccjfoclakaaDateEv
namespace Go.Proofs.Ytgogccjfoclakaa.Pure
open Go.RowKit Go.Proofs.Ytgogccjfoclakaa.P Go.Proofs.YtgogccjfoclakaaW.PrintWords Go.Proofs.YtgogccjfoclakaaW.PrintLast Go.Proofs.YtgogccjfoclakaaW.PrintMore Go.Proofs.Ytgogccjfoclakaa.Plain
theorem of_civ (m k : Nat) (n : Int) (hm : m < 2880) (h1 : st m ≤ n) (h2 : n < st (m + 1)) (hk : 20 ≤ k) :
    date_Of.f k (1960 + (m : Int) / 12) (1 + (m : Int) % 12) (n - st m + 1) = some (n, 0) := by
  have e : 12 * (m / 12) + m % 12 = m := by omega
  have hd : st (m + 1) = st m + dm m := rfl
  have := date_Of_ok (m / 12) (m % 12) k (n - st m + 1) (by omega) (by omega) (by omega) (by
    rw [show (1960 + ((m / 12 : Nat) : Int)) = 1960 + (m : Int) / 12 by omega, show (1 + ((m % 12 : Nat) : Int)) = 1 + (m : Int) % 12 by omega]
    show n - st m + 1 ≤ dm m
    omega) hk
  rw [e, show (1960 + ((m / 12 : Nat) : Int)) = 1960 + (m : Int) / 12 by omega, show (1 + ((m % 12 : Nat) : Int)) = 1 + (m : Int) % 12 by omega] at this
  rw [this, show st m + (n - st m + 1) - 1 = n by omega]
theorem DateBack : annuitylaw04_DateBack.Pure := by
  intro a0 _
  obtain ⟨k, hk⟩ : ∃ k : Nat, 3000 ≤ k := ⟨_, Nat.le_refl _⟩
  refine ⟨k + 1, ?_⟩
  obtain ⟨b0, b1⟩ := mod_lt a0 87658 (by omega)
  unfold annuitylaw04_DateBack.f
  rw [keep_Mod_is _ _ (by omega) (by omega)]
  simp only [obind]
  generalize a0 % 87658 = n at *
  obtain ⟨m, hm, h1, h2⟩ := mo_ex n (by omega) (by omega)
  have hs : st (m + 1) = st m + dm m := rfl
  have hn := st_nn m
  rw [date_Civil_ok m _ n hm h1 h2 (by omega), w64 (e := n + 1) (by omega) (by omega)]
  simp only [obind, civ]
  rw [of_civ m _ n hm h1 h2 (by omega)]
  simp only [obind, date_Week_is]
  rw [if_pos (by omega), if_pos (by omega)]
  simp only [if_true]
  have hw : ((n + 1 + 5) % 7 != Int.tmod (wrap64 ((n + 5) % 7 + 1)) 7) = false := by
    rw [w64 (by omega) (by omega), tmod_nn (by omega)]
    simp; omega
  rw [hw]
  by_cases c : n + 1 < st (m + 1)
  · rw [date_Civil_ok m _ (n + 1) hm (by omega) c (by omega)]
    simp only [obind, civ, if_true, annuitylaw04_DateBack.j0]
    rw [if_neg (by simp), if_neg (by omega)]
    rw [w64 (by omega) (by omega), if_pos (by omega), wakes04 k (by omega)]
    rfl
  · have e : n + 1 = st (m + 1) := by omega
    have hm' : m + 1 < 2880 := by
      apply Nat.lt_of_le_of_ne (by omega)
      intro e'; rw [e', st_last] at e; omega
    have hd : date_Days.f (1960 + (m : Int) / 12) (1 + (m : Int) % 12) = some (dm m) := date_Days_is _ _
    rw [date_Civil_ok (m + 1) _ (n + 1) hm' (by omega) (by have := st_lt (m + 1); omega) (by omega)]
    simp only [obind, civ, if_true, annuitylaw04_DateBack.j0]
    rw [if_neg (by simp), if_pos (by omega), hd]
    simp only [obind]
    rw [if_pos (by omega), w64 (e := 1 + (m : Int) % 12 + 1) (by omega) (by omega), w64 (e := 1960 + (m : Int) / 12 + 1) (by omega) (by omega), wakes04 k (by omega)]
    by_cases c2 : (m : Int) % 12 = 11
    · rw [if_neg (by omega), if_pos (by omega), if_pos (by omega), if_pos (by omega)]; rfl
    · rw [if_pos (by omega), if_pos (by omega)]; rfl
end Go.Proofs.Ytgogccjfoclakaa.Pure
