/- PlanLapses: who is asked by income is so for twelve months; for every input. -/
import Derived.Test.YtlhcohipnieidaaPx32
import Derived.Test.YtlhcohipnieidaaPx35
import Derived.Test.YtlhcohipnieidaaPlanWakes
namespace Go.Proofs.Ytlhcohipnieidaa.PurePl
set_option linter.unusedVariables false
set_option linter.unusedSimpArgs false
open Go.RowKit Go.Proofs.Ytlhcohipnieidaa.P Go.Proofs.YtlhcohipnieidaaW.PrintWords Go.Proofs.YtlhcohipnieidaaW.PrintLast Go.Proofs.YtlhcohipnieidaaW.PrintMore Go.Proofs.Ytlhcohipnieidaa.PlainM
open Go.Proofs.Ytlhcohipnieidaa.Plain (st dm dd lg yr st_12 yr_succ dm_at st_mono st_nn mo_ex)
/-- A day more in a long year. -/
def Lq (y : Nat) : Int := if lg (1960 + (y : Int)) = true then 1 else 0
theorem Lq_bd (y : Nat) : 0 ≤ Lq y ∧ Lq y ≤ 1 := by unfold Lq; split <;> omega
theorem dd_step (y j : Nat) (hj : j < 12) : dd (1960 + ((y + 1 : Nat) : Int)) (1 + j) - dd (1960 + (y : Int)) (1 + j) = if j = 1 then Lq (y + 1) - Lq y else 0 := by
  unfold dd Lq
  (repeat' split) <;> omega
theorem yr12 (y : Nat) : ∀ j : Nat, j < 12 → st (12 * (y + 1) + j) - st (12 * y + j) = 365 + (if j ≤ 1 then Lq y else Lq (y + 1)) := by
  intro j
  induction j with
  | zero =>
    intro _
    show st (12 * (y + 1)) - st (12 * y) = _
    rw [st_12, st_12, if_pos (by omega)]
    have := yr_succ (1960 + (y : Int))
    unfold Lq
    rw [show 1960 + ((y + 1 : Nat) : Int) = 1960 + (y : Int) + 1 by omega, this]
    omega
  | succ j ih =>
    intro hj
    have i1 := ih (by omega)
    have e1 : st (12 * (y + 1) + (j + 1)) = st (12 * (y + 1) + j) + dm (12 * (y + 1) + j) := rfl
    have e2 : st (12 * y + (j + 1)) = st (12 * y + j) + dm (12 * y + j) := rfl
    have d := dd_step y j (by omega)
    rw [e1, e2, dm_at (y + 1) j (by omega), dm_at y j (by omega)]
    by_cases c1 : j = 1
    · subst c1
      rw [if_pos rfl] at d
      rw [if_pos (by omega)] at i1
      rw [if_neg (by omega)]
      omega
    · rw [if_neg c1] at d
      by_cases c2 : j ≤ 1
      · rw [if_pos c2] at i1
        rw [if_pos (by omega)]
        omega
      · rw [if_neg c2] at i1
        rw [if_neg (by omega)]
        omega
/-- Twelve months on are 365 or 366 days. -/
theorem year_add (a : Int) (h0 : 0 ≤ a) (h1 : a ≤ 87257) : ∃ n, addD a 12 = (n, 0) ∧ a + 365 ≤ n ∧ n ≤ a + 366 := by
  obtain ⟨m, hm, g1, g2⟩ := mo_ex a h0 (by omega)
  have hm2 : m < 2868 := by
    refine Nat.lt_of_not_le fun hc => ?_
    have h := st_mono hc
    have e : st 2868 = 87294 := PureD.st_at 239 _ (by decide +kernel)
    omega
  have h := add_is a 12 400 (Nat.le_refl _)
  rw [PureD.date_Add_ok m (m + 12) 400 a 12 hm g1 g2 (by omega) (by omega) (by omega)] at h
  refine ⟨_, (Option.some.inj h).symm, ?_⟩
  obtain ⟨y, j, hj, e⟩ : ∃ y j : Nat, j < 12 ∧ m = 12 * y + j := ⟨m / 12, m % 12, by omega, by omega⟩
  have hy := yr12 y j hj
  have e12 : m + 12 = 12 * (y + 1) + j := by omega
  have hd := dd_step y j hj
  have hs : st (m + 1) = st m + dm m := rfl
  rw [hs, e, dm_at y j hj] at g2
  rw [e] at g1
  have b1 := Lq_bd y; have b2 := Lq_bd (y + 1)
  unfold PureD.inMonth
  rw [e12, e, dm_at (y + 1) j hj]
  by_cases c : a - st (12 * y + j) + 1 ≤ dd (1960 + ((y + 1 : Nat) : Int)) (1 + j)
  · rw [if_pos c]
    split at hy <;> omega
  · rw [if_neg c]
    by_cases c1 : j = 1
    · rw [if_pos c1] at hd
      rw [if_pos (by omega)] at hy
      omega
    · rw [if_neg c1] at hd
      omega
theorem PlanLapses : annuitylaw18_PlanLapses.Pure := by
  intro a0 a1 a2 _ _ h2
  have h2 := Plain.wfu8 h2
  obtain ⟨k, hk⟩ : ∃ k : Nat, 7000 ≤ k := ⟨_, Nat.le_refl _⟩
  refine ⟨k, ?_⟩
  unfold annuitylaw18_PlanLapses.f
  obtain ⟨x0, x1⟩ := Plain.mod_lt a0 87258 (by omega)
  obtain ⟨y0, y1⟩ := Plain.mod_lt a1 87659 (by omega)
  rw [PureD.keep_Mod_is _ _ (by omega) (by omega), PureD.keep_Mod_is _ _ (by omega) (by omega), obind, obind]
  generalize a0 % 87258 = x at *
  generalize a1 % 87659 = y at *
  rw [w64 (e := a2) (by omega) (by omega), Plain.tmod_nn (by omega), w64 (e := 1 + a2 % 4) (by omega) (by omega), w64 (e := x + 364) (by omega) (by omega), w64 (e := x + 366) (by omega) (by omega)]
  simp only [holds_is _ _ _ _ _ _ _ _ _ _ _ _ _ _ k (by omega), wakes18 k hk, obind]
  obtain ⟨p, hp⟩ : ∃ p, 1 + a2 % 4 = p := ⟨_, rfl⟩
  rw [hp]
  by_cases h4 : p = 4
  · subst h4
    obtain ⟨n, hn, n1, n2⟩ := year_add x x0 (by omega)
    have hS : ∀ d, holdsS 4 x d = if d ≥ n then 1 else 4 := fun d => by
      unfold holdsS
      rw [hn]; rfl
    simp only [hS]
    rw [if_pos trivial, if_neg (show ¬ x + 364 ≥ n by omega), if_pos rfl, if_pos (show x + 366 ≥ n by omega), if_pos rfl, if_neg (show ¬ x ≥ n by omega), if_pos rfl]
    by_cases c1 : y ≤ x + 364
    · rw [if_pos c1, if_neg (show ¬ y ≥ n by omega), if_pos rfl, if_neg (show ¬ y ≥ x + 366 by omega)]
    · rw [if_neg c1]
      by_cases c2 : y ≥ x + 366
      · rw [if_pos c2, if_pos (show y ≥ n by omega), if_pos rfl]
      · rw [if_neg c2]
  · have e1 : holdsS p x y = p := by unfold holdsS; rw [if_neg (by omega), if_neg h4]
    have e2 : holdsS 0 x y = 1 := rfl
    rw [if_neg h4, e1, e2, if_pos rfl, if_pos rfl]
end Go.Proofs.Ytlhcohipnieidaa.PurePl
namespace Go.Proofs.Ytlhcohipnieidaa.Pure
theorem PlanLapses : Go.Proofs.Ytlhcohipnieidaa.P.annuitylaw18_PlanLapses.Pure := PurePl.PlanLapses
end Go.Proofs.Ytlhcohipnieidaa.Pure
