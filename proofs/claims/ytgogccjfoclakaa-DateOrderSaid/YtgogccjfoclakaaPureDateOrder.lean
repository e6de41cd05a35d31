/- DateOrder: of two dates the later one has the greater number; a year has 365 days, or, if it is long, 366; seven days later it is the same day of the week; for every input. -/
import Derived.Test.YtgogccjfoclakaaPx12
import Derived.Test.YtgogccjfoclakaaDateEv
namespace Go.Proofs.Ytgogccjfoclakaa.Pure
open Go.RowKit Go.Proofs.Ytgogccjfoclakaa.P Go.Proofs.YtgogccjfoclakaaW.PrintWords Go.Proofs.YtgogccjfoclakaaW.PrintLast Go.Proofs.YtgogccjfoclakaaW.PrintMore Go.Proofs.Ytgogccjfoclakaa.Plain
theorem DateOrder : annuitylaw04_DateOrder.Pure := by
  intro a0 a1 a2 _ _ hy
  have hy := wfu8 hy
  obtain ⟨k, hk⟩ : ∃ k : Nat, 3000 ≤ k := ⟨_, Nat.le_refl _⟩
  refine ⟨k + 4, ?_⟩
  obtain ⟨b0, b1⟩ := mod_lt a0 87659 (by omega)
  obtain ⟨x0, x1⟩ := mod_lt a1 87659 (by omega)
  unfold annuitylaw04_DateOrder.f
  rw [keep_Mod_is _ _ (by omega) (by omega), keep_Mod_is _ _ (by omega) (by omega)]
  simp only [obind]
  generalize a0 % 87659 = x at *
  generalize a1 % 87659 = y at *
  obtain ⟨m, hm, h1, h2⟩ := mo_ex x (by omega) (by omega)
  obtain ⟨n, hn, g1, g2⟩ := mo_ex y (by omega) (by omega)
  rw [date_Civil_ok m _ x hm h1 h2 (by omega), date_Civil_ok n _ y hn g1 g2 (by omega)]
  simp only [obind, civ, if_true]
  have hj3 : annuitylaw04_DateOrder.j3 (k + 1) x false = some true := by
    simp only [annuitylaw04_DateOrder.j3, date_Week_is, obind]
    rw [if_neg (by simp), if_pos (show 0 ≤ x ∧ x ≤ 87658 by omega), w64 (by omega) (by omega), wakes04 k (by omega)]
    by_cases c : x + 7 > 87658
    · rw [if_pos c, if_neg (show ¬ (0 ≤ x + 7 ∧ x + 7 ≤ 87658) by omega)]; rfl
    · rw [if_neg c, if_pos (show 0 ≤ x + 7 ∧ x + 7 ≤ 87658 by omega)]
      simp only [if_true]
      rw [if_pos (by omega)]; rfl
  have hj1 : annuitylaw04_DateOrder.j1 (k + 3) a2 x false = some true := by
    simp only [annuitylaw04_DateOrder.j1]
    rw [if_neg (by simp), w64 (e := a2) (by omega) (by omega), tmod_nn (by omega)]
    obtain ⟨z, hz⟩ : ∃ z : Nat, a2 % 239 = z := ⟨(a2 % 239).toNat, by omega⟩
    have hz' : z < 239 := by omega
    rw [hz, w64 (e := 1960 + (z : Int)) (by omega) (by omega), w64 (by omega) (by omega)]
    have o1 := date_Of_ok z 0 (k + 2) 1 (by omega) (by omega) (by omega) (by have := dd_ge (1960 + (z : Int)) (1 + ((0 : Nat) : Int)) (by omega) (by omega); omega) (by omega)
    have o2 := date_Of_ok (z + 1) 0 (k + 2) 1 (by omega) (by omega) (by omega) (by have := dd_ge (1960 + ((z + 1 : Nat) : Int)) (1 + ((0 : Nat) : Int)) (by omega) (by omega); omega) (by omega)
    rw [show 1960 + ((z + 1 : Nat) : Int) = 1960 + (z : Int) + 1 by omega] at o2
    have e1 : 12 * z + 0 = 12 * z := rfl
    have e2 : 12 * (z + 1) + 0 = 12 * (z + 1) := rfl
    have e3 : (1 : Int) + ((0 : Nat) : Int) = 1 := rfl
    rw [e1, e3] at o1
    rw [e2, e3] at o2
    rw [o1, o2, date_Long_is]
    simp only [obind]
    have hy := yr_succ (1960 + z)
    have s1 := st_12 z; have s2 := st_12 (z + 1)
    rw [show 1960 + ((z + 1 : Nat) : Int) = 1960 + (z : Int) + 1 by omega] at s2
    have u1 := st_nn (12 * z); have u2 := st_up (12 * (z + 1)) (by omega)
    cases hl : lg (1960 + (z : Int)) with
    | true =>
      rw [hl, if_pos rfl] at hy
      rw [if_pos rfl]
      simp only [annuitylaw04_DateOrder.j2, if_true]
      have : (wrap64 (st (12 * (z + 1)) + 1 - 1 - (st (12 * z) + 1 - 1)) != 366) = false := by
        rw [w64 (by omega) (by omega)]; simp; omega
      rw [this]; exact hj3
    | false =>
      rw [hl, if_neg (by simp)] at hy
      rw [if_neg (by simp)]
      simp only [annuitylaw04_DateOrder.j2, if_true]
      have : (wrap64 (st (12 * (z + 1)) + 1 - 1 - (st (12 * z) + 1 - 1)) != 365) = false := by
        rw [w64 (by omega) (by omega)]; simp; omega
      rw [this]; exact hj3
  have h0 : ((0 : Int) != 0) = false := by decide
  rw [h0]
  simp only [annuitylaw04_DateOrder.j0]
  rw [if_neg (by simp)]
  have key : ∀ b : Bool, (decide (x < y)) = b → annuitylaw04_DateOrder.j1 (k + 3) a2 x ((decide (x < y)) != b) = some true := by
    intro b hb; rw [hb]; simp only [bne_self_eq_false]; exact hj1
  have hd1 : x < st (m + 1) := h2
  rcases Nat.lt_trichotomy m n with c | c | c
  · have := st_mono (show m + 1 ≤ n by omega)
    have hlt : decide (x < y) = true := decide_eq_true (by omega)
    by_cases c1 : 1960 + (m : Int) / 12 < 1960 + (n : Int) / 12
    · rw [if_pos c1]; exact key true hlt
    · rw [if_neg c1, if_pos (by omega), if_pos (by omega)]; exact key true hlt
  · subst c
    rw [if_neg (by omega), if_pos rfl, if_neg (by omega), if_pos rfl]
    exact key _ (by rw [decide_eq_decide]; omega)
  · have := st_mono (show n + 1 ≤ m by omega)
    have hlt : decide (x < y) = false := decide_eq_false (by omega)
    rw [if_neg (by omega)]
    by_cases c1 : 1960 + (m : Int) / 12 = 1960 + (n : Int) / 12
    · rw [if_pos c1, if_neg (by omega), if_neg (by omega)]; exact key false hlt
    · rw [if_neg c1]; exact key false hlt
end Go.Proofs.Ytgogccjfoclakaa.Pure
