/- AccrueAdds: days and days more are as much as all at once, in whatever order; for every input. -/
import Derived.Test.YteeajbnpbagjlaaPx14
import Derived.Test.YteeajbnpbagjlaaPx15
import Derived.Test.YteeajbnpbagjlaaAccrueEv
namespace Go.Proofs.Yteeajbnpbagjlaa.Pure
set_option linter.unusedVariables false
open Go.RowKit Go.Proofs.Yteeajbnpbagjlaa.P Go.Proofs.YteeajbnpbagjlaaW.PrintWords Go.Proofs.YteeajbnpbagjlaaW.PrintLast Go.Proofs.YteeajbnpbagjlaaW.PrintMore Go.Proofs.Yteeajbnpbagjlaa.PlainM
theorem keep_Mod_is (a n : Int) (hn : 0 < n) (hn' : n ≤ 4611686018427387904) : annuitykeep_Mod.f a n = some (a % n) := by
  unfold annuitykeep_Mod.f
  rw [if_neg (by omega), if_neg (by omega)]
  have h1 := Int.tmod_lt_of_pos a hn
  have h2 : -n < Int.tmod a n := by
    have := Int.lt_tmod_of_pos a hn
    exact this
  rw [w64 (by omega) (by omega), tmod_nn (by omega), Int.add_emod_right]
  congr 1
  rw [Int.tmod_eq_emod]
  split
  · simp
  · rw [Int.natAbs_of_nonneg (by omega), Int.sub_emod, Int.emod_self]; simp
theorem adds_j1 (r p x d1 d2 : Int) (k : Nat) (hp : 0 ≤ p ∧ p ≤ 10000000000000) (hx : 0 ≤ x ∧ x < 1000000000000000000) (hk : 200 ≤ k) : annuitylaw13_AccrueAdds.j1 (k + 2) r p x d1 d2 = some true := by
  simp only [annuitylaw13_AccrueAdds.j1]
  rw [keep_Mod_is _ _ (by omega) (by omega), keep_Mod_is _ _ (by omega) (by omega), keep_Mod_is _ _ (by omega) (by omega)]
  simp only [obind]
  have r0 := Int.emod_nonneg r (show (1000001 : Int) ≠ 0 by omega); have r1 := Int.emod_lt_of_pos r (show (0 : Int) < 1000001 by omega)
  have a0 := Int.emod_nonneg d1 (show (43829 : Int) ≠ 0 by omega); have a1 := Int.emod_lt_of_pos d1 (show (0 : Int) < 43829 by omega)
  have b0 := Int.emod_nonneg d2 (show (43829 : Int) ≠ 0 by omega); have b1 := Int.emod_lt_of_pos d2 (show (0 : Int) < 43829 by omega)
  generalize r % 1000001 = q at *
  generalize d1 % 43829 = u at *
  generalize d2 % 43829 = v at *
  rw [w64 (e := u + v) (by omega) (by omega), accrue_Add_is _ _ _ _ _ (by omega), accrue_Add_is _ _ _ _ _ (by omega), accrue_Add_is _ _ _ _ _ (by omega)]
  simp only [obind]
  have b := daily_bd p q (by omega)
  have hA : ∀ y d, 0 ≤ y → y ≤ 1000000000000000000 → 0 ≤ d → d ≤ 87658 → accS y p q d = if y + p * q / 365 * d > 1000000000000000000 then (0, 14) else (y + p * q / 365 * d, 0) := by
    intro y d h1 h2 h3 h4; unfold accS; rw [if_neg (by omega)]
  rw [hA x (u + v) (by omega) (by omega) (by omega) (by omega), hA x u (by omega) (by omega) (by omega) (by omega), hA x v (by omega) (by omega) (by omega) (by omega)]
  have m1 : 0 ≤ p * q / 365 * u := Int.mul_nonneg b.2.2.1 a0
  have m2 : 0 ≤ p * q / 365 * v := Int.mul_nonneg b.2.2.1 b0
  rw [Int.mul_add]
  by_cases c : x + (p * q / 365 * u + p * q / 365 * v) > 1000000000000000000
  · rw [if_pos c, if_neg (by omega), if_pos rfl, if_pos rfl, wakes13 _ (by omega)]; rfl
  · rw [if_neg c, if_neg (show ¬ (x + p * q / 365 * u > 1000000000000000000) by omega), if_neg (show ¬ (x + p * q / 365 * v > 1000000000000000000) by omega), if_pos rfl, if_pos rfl]
    simp only [annuitylaw13_AccrueAdds.j2, bne_self_eq_false]
    rw [if_neg (by simp), accrue_Add_is _ _ _ _ _ (by omega), accrue_Add_is _ _ _ _ _ (by omega)]
    simp only [obind]
    rw [hA (x + p * q / 365 * u) v (by omega) (by omega) (by omega) (by omega), hA (x + p * q / 365 * v) u (by omega) (by omega) (by omega) (by omega)]
    rw [if_neg (show ¬ (x + p * q / 365 * u + p * q / 365 * v > 1000000000000000000) by omega), if_neg (show ¬ (x + p * q / 365 * v + p * q / 365 * u > 1000000000000000000) by omega)]
    rw [if_pos rfl, if_pos rfl, if_pos (by omega), if_pos (by omega), if_pos (by omega), wakes13 _ (by omega)]
    rfl
theorem AccrueAdds : annuitylaw13_AccrueAdds.Pure := by
  intro a b c d e ha hb _ _ _
  have ha := wf64 ha; have hb := wf64 hb
  obtain ⟨k, hk⟩ : ∃ k : Nat, 300 ≤ k := ⟨_, Nat.le_refl _⟩
  refine ⟨k + 3, ?_⟩
  have t1 := Int.tmod_lt_of_pos a (show (0 : Int) < 10000000000001 by omega)
  have t2 : -10000000000001 < Int.tmod a 10000000000001 := Int.lt_tmod_of_pos a (by omega)
  have t3 := Int.tmod_lt_of_pos b (show (0 : Int) < 1000000000000000000 by omega)
  have t4 : -1000000000000000000 < Int.tmod b 1000000000000000000 := Int.lt_tmod_of_pos b (by omega)
  unfold annuitylaw13_AccrueAdds.f
  generalize Int.tmod a 10000000000001 = p at *
  generalize Int.tmod b 1000000000000000000 = x at *
  have hj : ∀ p', 0 ≤ p' → p' ≤ 10000000000000 → annuitylaw13_AccrueAdds.j0 (k + 3) c p' x d e = some true := by
    intro p' h1 h2
    simp only [annuitylaw13_AccrueAdds.j0]
    by_cases c1 : x < 0
    · rw [if_pos c1, w64 (by omega) (by omega)]; exact adds_j1 _ _ _ _ _ k ⟨h1, h2⟩ ⟨by omega, by omega⟩ (by omega)
    · rw [if_neg c1]; exact adds_j1 _ _ _ _ _ k ⟨h1, h2⟩ ⟨by omega, by omega⟩ (by omega)
  by_cases c1 : p < 0
  · rw [if_pos c1, w64 (by omega) (by omega)]; exact hj _ (by omega) (by omega)
  · rw [if_neg c1]; exact hj _ (by omega) (by omega)
end Go.Proofs.Yteeajbnpbagjlaa.Pure
