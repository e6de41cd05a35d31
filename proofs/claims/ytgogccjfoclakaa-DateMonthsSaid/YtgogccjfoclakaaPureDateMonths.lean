/- DateMonths: a day lies in its month, from the month's first one on; so many months on, and back from a day up to the 28th, is the day itself; for every input. -/
import Derived.Test.YtgogccjfoclakaaPx15
import Derived.Test.YtgogccjfoclakaaDateEv
namespace Go.Proofs.Ytgogccjfoclakaa.Pure
open Go.RowKit Go.Proofs.Ytgogccjfoclakaa.P Go.Proofs.YtgogccjfoclakaaW.PrintWords Go.Proofs.YtgogccjfoclakaaW.PrintLast Go.Proofs.YtgogccjfoclakaaW.PrintMore Go.Proofs.Ytgogccjfoclakaa.Plain
theorem DateMonths : annuitylaw04_DateMonths.Pure := by
  intro a0 a1 _ _
  obtain ⟨k, hk⟩ : ∃ k : Nat, 3000 ≤ k := ⟨_, Nat.le_refl _⟩
  refine ⟨k + 1, ?_⟩
  obtain ⟨b0, b1⟩ := mod_lt a0 87659 (by omega)
  obtain ⟨x0, x1⟩ := mod_lt a1 2880 (by omega)
  unfold annuitylaw04_DateMonths.f
  rw [keep_Mod_is _ _ (by omega) (by omega), keep_Mod_is _ _ (by omega) (by omega)]
  simp only [obind]
  generalize a0 % 87659 = n at *
  generalize a1 % 2880 = x at *
  obtain ⟨m, hm, h1, h2⟩ := mo_ex n (by omega) (by omega)
  have hs : st (m + 1) = st m + dm m := rfl
  have hn := st_nn m
  have hb := mo_bd hm h1 h2
  have hdm := dm_le m
  rw [date_Month_ok m _ n hm h1 h2 (by omega)]
  simp only [obind]
  rw [date_First_ok m _ hm (by omega), date_Civil_ok m _ n hm h1 h2 (by omega)]
  simp only [obind, civ, if_true]
  have hx : ((wrap64 (wrap64 (st m + (n - st m + 1)) - 1)) != n) = false := by
    rw [w64 (e := st m + _) (by omega) (by omega), w64 (by omega) (by omega)]; simp; omega
  rw [hx]
  simp only [annuitylaw04_DateMonths.j0]
  rw [if_neg (by simp), w64 (e := (m : Int) + x) (by omega) (by omega)]
  by_cases c : 2880 ≤ (m : Int) + x
  · rw [date_Add_no m k n x hm h1 h2 (.inr c) (by omega)]
    simp only [obind]
    rw [if_neg (by omega), if_pos (by omega), if_pos trivial, wakes04 k (by omega)]
    rfl
  · obtain ⟨a, ha⟩ : ∃ a : Nat, (m : Int) + x = a := ⟨m + x.toNat, by omega⟩
    have ha' : a < 2880 := by omega
    rw [date_Add_ok m a k n x hm h1 h2 ha' ha (by omega)]
    have g := dm_ge a; have g' := dm_le a; have gm := dm_ge m
    have hsa : st (a + 1) = st a + dm a := rfl
    obtain ⟨e, he, he1, he2⟩ : ∃ e : Int, e = (if n - st m + 1 ≤ dm a then n - st m + 1 else dm a) ∧ 1 ≤ e ∧ e ≤ dm a := ⟨_, rfl, by split <;> omega, by split <;> omega⟩
    have hi : inMonth a (n - st m + 1) = st a + e - 1 := by unfold inMonth; rw [he]
    have i1 : st a ≤ st a + e - 1 := by omega
    have i2 : st a + e - 1 < st (a + 1) := by omega
    have hb2 := mo_bd ha' i1 i2
    simp only [obind, if_true]
    rw [hi, date_Month_ok a k _ ha' i1 i2 (by omega), w64 (e := -x) (by omega) (by omega), date_Add_ok a m k _ (-x) ha' i1 i2 hm (by omega) (by omega)]
    simp only [obind, if_true]
    have hj : inMonth m (st a + e - 1 - st a + 1) = st m + (if e ≤ dm m then e else dm m) - 1 := by
      unfold inMonth; rw [show st a + e - 1 - st a + 1 = e by omega]
    have hem : e ≤ dm m := by rw [he]; split <;> omega
    rw [hj, if_pos hem, if_pos ha.symm, if_neg (by omega), wakes04 k (by omega)]
    by_cases c3 : st m + e - 1 = n
    · rw [if_pos c3]; rfl
    · rw [if_neg c3]
      have : ¬ (n - st m + 1 ≤ dm a) := fun h => by rw [if_pos h] at he; omega
      rw [if_neg this] at he
      rw [w64 (by omega) (by omega), if_pos (by omega), if_pos (by omega), if_pos (by omega)]; rfl
end Go.Proofs.Ytgogccjfoclakaa.Pure
