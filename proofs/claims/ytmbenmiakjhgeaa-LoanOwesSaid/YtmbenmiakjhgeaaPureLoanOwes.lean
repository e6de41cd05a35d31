/- LoanOwes: what a loan owes rises by interest, fees and draws alone; capitalizing changes nothing of it; what is paid is what it owes less; whatever is told is good; for every input. -/
import Derived.Test.YtmbenmiakjhgeaaZy
import Derived.Test.YtmbenmiakjhgeaaPx17
import Derived.Test.YtmbenmiakjhgeaaOwM
import Derived.Test.YtmbenmiakjhgeaaLoanOwesEv
namespace Go.Proofs.Ytmbenmiakjhgeaa.Pure
set_option linter.unusedVariables false
set_option linter.unusedSimpArgs false
open Go.RowKit Go.Proofs.Ytmbenmiakjhgeaa.P Go.Proofs.YtmbenmiakjhgeaaW.PrintWords Go.Proofs.YtmbenmiakjhgeaaW.PrintLast Go.Proofs.YtmbenmiakjhgeaaW.PrintMore Go.Proofs.Ytmbenmiakjhgeaa.PlainM Go.Proofs.Ytmbenmiakjhgeaa.PureL
theorem keep_Mod_of (a n : Int) (hn : 0 < n) (hn' : n ≤ 4611686018427387904) : annuitykeep_Mod.f a n = some (a % n) := by
  unfold annuitykeep_Mod.f
  rw [if_neg (by omega), if_neg (by omega)]
  have h1 := Int.tmod_lt_of_pos a hn
  have h2 : -n < Int.tmod a n := Int.lt_tmod_of_pos a hn
  rw [w64 (by omega) (by omega), tmod_nn (by omega), Int.add_emod_right]
  congr 1
  rw [Int.tmod_eq_emod]
  split
  · simp
  · rw [Int.natAbs_of_nonneg (by omega), Int.sub_emod, Int.emod_self]; simp
section
variable {id pr it su fe ppm : Int} {sd : Bool} {st cl en le fa ct : Int}
/-- What is owed, where it is money. -/
theorem owesS_ok (g : gd id pr it su fe ppm st cl en le fa ct) (h1 : pr + fe ≤ 10000000000000) (h2 : pr + fe + it / 1000000 ≤ 10000000000000) : owesS id pr it su fe ppm st cl en le fa ct = (pr + fe + it / 1000000, 0) := by
  unfold owesS; rw [if_pos g, if_neg (by omega), if_neg (by omega)]
theorem ref_good_yes (sd : Bool) (g : gd id pr it su fe ppm st cl en le fa ct) : annuityref14_Good.f id pr it su fe ppm sd st cl en le fa ct = some true := by rw [ref_good_is, decide_eq_true g]
theorem ow_j4 (sd : Bool) (g : gd id pr it su fe ppm st cl en le fa ct) (h1 : pr + fe ≤ 10000000000000) (h2 : pr + fe + it / 1000000 ≤ 10000000000000) (s : Int) (k : Nat) (hk : 30 ≤ k) :
    annuitylaw14_LoanOwes.j4 (k + 1) s (pr + fe + it / 1000000) id pr it su fe ppm sd st cl en le fa ct = some true := by
  have g' := g
  unfold gd mon at g'
  simp only [annuitylaw14_LoanOwes.j4]
  rw [keep_Mod_of s 4 (by omega) (by omega)]
  simp only [obind]
  obtain ⟨y, hy⟩ : ∃ y, y = s % 4 := ⟨_, rfl⟩
  rw [← hy]
  have hy2 : 0 ≤ y ∧ y < 4 := by omega
  rw [w64 (e := 1 + y) (by omega) (by omega)]
  by_cases c : cl = 0
  · have e : loan_Close.f k id pr it su fe ppm sd st cl en le fa ct (1 + y) = some (id, 0, 0, su, 0, ppm, sd, st, 1 + y, en, le, fa, ct, pr + fe + it / 1000000, 0) := by
      unfold loan_Close.f
      rw [good_is _ _ _ _ _ _ _ _ _ _ _ _ _ k (by omega), decide_eq_true g]
      simp only [obind]
      rw [if_pos trivial, if_pos g'.2.2.1.1, if_neg (by omega), if_neg (fun h => h c), madd_nn pr fe (by omega) (by omega) (by omega) (by omega), if_neg (by omega)]
      simp only [obind]
      rw [if_pos trivial, madd_nn (pr + fe) (it / 1000000) (by omega) (by omega) (by omega) (by omega), if_neg (by omega)]
      simp only [obind, if_true]
    have g2 : gd id 0 0 su 0 ppm st (1 + y) en le fa ct := by unfold gd mon; omega
    rw [e]
    simp only [obind]
    rw [if_pos c, owes_is _ _ _ _ _ _ _ _ _ _ _ _ _ k (by omega), owesS_ok g2 (by omega) (by omega), ref_good_yes sd g2]
    simp only [obind, if_true]
    rw [if_pos (by omega), wakes14 k (by omega)]
    rfl
  · have e : loan_Close.f k id pr it su fe ppm sd st cl en le fa ct (1 + y) = some (0, 0, 0, 0, 0, 0, false, 0, 0, 0, 0, 0, 0, 0, 61) := by
      unfold loan_Close.f
      rw [good_is _ _ _ _ _ _ _ _ _ _ _ _ _ k (by omega), decide_eq_true g]
      simp only [obind]
      rw [if_pos trivial, if_pos g'.2.2.1.1, if_neg (by omega), if_pos c]
    rw [e]
    simp only [obind]
    rw [if_neg c, if_pos trivial, if_pos (by omega), wakes14 k (by omega)]
    rfl
theorem ow_j3 (sd : Bool) (g : gd id pr it su fe ppm st cl en le fa ct) (h1 : pr + fe ≤ 10000000000000) (h2 : pr + fe + it / 1000000 ≤ 10000000000000) (s : Int) (k : Nat) (hk : 30 ≤ k) :
    annuitylaw14_LoanOwes.j3 (k + 2) s (pr + fe + it / 1000000) id pr it su fe ppm sd st cl en le fa ct = some true := by
  have g' := g
  unfold gd mon at g'
  have R := ow_j4 sd g h1 h2 s k hk
  simp only [annuitylaw14_LoanOwes.j3]
  rw [turn_is _ _ _ _ _ _ _ _ _ _ _ _ _ _ _ (k + 1) (by omega)]
  simp only [obind]
  by_cases c : cl = 0
  case neg =>
    have e : turnS id pr it su fe ppm sd st cl en le fa ct s 5 = Zl 61 := by unfold turnS; rw [if_pos g, if_neg (by omega), if_pos c]
    rw [e, if_neg (show ¬ (Zl 61).2.2.2.2.2.2.2.2.2.2.2.2.2 = 0 by decide)]; exact R
  by_cases b : loan_Turn.bad st en s
  · have e : turnS id pr it su fe ppm sd st cl en le fa ct s 5 = Zl 62 := by unfold turnS; rw [if_pos g, if_neg (by omega), if_neg (fun h => h c), if_pos b]
    rw [e, if_neg (show ¬ (Zl 62).2.2.2.2.2.2.2.2.2.2.2.2.2 = 0 by decide)]; exact R
  have b' := b
  unfold loan_Turn.bad at b'
  by_cases h5 : s = 5
  · have e : turnS id pr it su fe ppm sd st cl en le fa ct s 5 = (id, pr + it / 1000000, it - it / 1000000 * 1000000, su, fe, ppm, sd, s, 0, 5, le, fa, ct, 0) := by unfold turnS; rw [if_pos g, if_neg (by omega), if_neg (fun h => h c), if_neg b, if_pos h5, if_neg (by omega)]
    have g2 : gd id (pr + it / 1000000) (it - it / 1000000 * 1000000) su fe ppm s 0 5 le fa ct := by unfold gd mon; omega
    rw [e]
    simp only [if_true]
    rw [owes_is _ _ _ _ _ _ _ _ _ _ _ _ _ (k + 1) (by omega), owesS_ok g2 (by omega) (by omega), ref_good_yes sd g2]
    simp only [obind, if_true]
    rw [if_pos (by omega)]; exact R
  · have e : turnS id pr it su fe ppm sd st cl en le fa ct s 5 = (id, pr, it, su, fe, ppm, sd, s, 0, en, le, fa, ct, 0) := by unfold turnS; rw [if_pos g, if_neg (by omega), if_neg (fun h => h c), if_neg b, if_neg h5]
    have g2 : gd id pr it su fe ppm s 0 en le fa ct := by unfold gd mon; omega
    rw [e]
    simp only [if_true]
    rw [owes_is _ _ _ _ _ _ _ _ _ _ _ _ _ (k + 1) (by omega), owesS_ok g2 h1 h2, ref_good_yes sd g2]
    simp only [obind, if_true]
    exact R
theorem ow_j2 (sd : Bool) (g : gd id pr it su fe ppm st cl en le fa ct) (h1 : pr + fe ≤ 10000000000000) (h2 : pr + fe + it / 1000000 ≤ 10000000000000) (s m pf pi pp : Int) (k : Nat) (hk : 30 ≤ k) :
    annuitylaw14_LoanOwes.j2 (k + 3) s (pr + fe + it / 1000000) id pr it su fe ppm sd st cl en le fa ct m pf pi pp = some true := by
  have g' := g
  unfold gd mon at g'
  have R := ow_j3 sd g h1 h2 s k hk
  simp only [annuitylaw14_LoanOwes.j2]
  rw [pay_is _ _ _ _ _ _ _ _ _ _ _ _ _ _ _ _ (k + 2) (by omega)]
  simp only [obind]
  by_cases c0 : pf < 0 ∨ pi < 0 ∨ pp < 0
  · have e : payS id pr it su fe ppm sd st cl en le fa ct pf pi pp = Zl 1 := by unfold payS; rw [if_pos g, if_pos c0]
    rw [e, if_neg (show ¬ (Zl 1).2.2.2.2.2.2.2.2.2.2.2.2.2 = 0 by decide)]; exact R
  by_cases c : cl = 0
  case neg =>
    have e : payS id pr it su fe ppm sd st cl en le fa ct pf pi pp = Zl 61 := by unfold payS; rw [if_pos g, if_neg c0, if_pos c]
    rw [e, if_neg (show ¬ (Zl 61).2.2.2.2.2.2.2.2.2.2.2.2.2 = 0 by decide)]; exact R
  by_cases c2 : fe < pf ∨ it / 1000000 < pi ∨ pr < pp
  · have e : payS id pr it su fe ppm sd st cl en le fa ct pf pi pp = Zl 14 := by unfold payS; rw [if_pos g, if_neg c0, if_neg (fun h => h c), if_pos c2]
    rw [e, if_neg (show ¬ (Zl 14).2.2.2.2.2.2.2.2.2.2.2.2.2 = 0 by decide)]; exact R
  have W1 : wrap64 (wrap64 (wrap64 (pr + fe + it / 1000000 - pf) - pi) - pp) = pr + fe + it / 1000000 - pf - pi - pp := by
    rw [w64 (e := pr + fe + it / 1000000 - pf) (by omega) (by omega), w64 (e := pr + fe + it / 1000000 - pf - pi) (by omega) (by omega), w64 (by omega) (by omega)]
  by_cases c3 : fe - pf = 0 ∧ (it - pi * 1000000) / 1000000 = 0 ∧ pr - pp = 0
  · have e : payS id pr it su fe ppm sd st cl en le fa ct pf pi pp = (id, 0, 0, su, 0, ppm, sd, st, 1, en, le, fa, ct, 0) := by unfold payS; rw [if_pos g, if_neg c0, if_neg (fun h => h c), if_neg c2, if_pos c3]
    have g2 : gd id 0 0 su 0 ppm st 1 en le fa ct := by unfold gd mon; omega
    rw [e]
    simp only [if_true]
    rw [owes_is _ _ _ _ _ _ _ _ _ _ _ _ _ (k + 2) (by omega), owesS_ok g2 (by omega) (by omega), ref_good_yes sd g2, W1]
    simp only [obind, if_true]
    rw [if_pos (by omega), if_neg (by decide)]; exact R
  · have e : payS id pr it su fe ppm sd st cl en le fa ct pf pi pp = (id, pr - pp, it - pi * 1000000, su, fe - pf, ppm, sd, st, 0, en, le, fa, ct, 0) := by unfold payS; rw [if_pos g, if_neg c0, if_neg (fun h => h c), if_neg c2, if_neg c3]
    have g2 : gd id (pr - pp) (it - pi * 1000000) su (fe - pf) ppm st 0 en le fa ct := by unfold gd mon; omega
    rw [e]
    simp only [if_true]
    rw [owes_is _ _ _ _ _ _ _ _ _ _ _ _ _ (k + 2) (by omega), owesS_ok g2 (by omega) (by omega), ref_good_yes sd g2, W1]
    simp only [obind, if_true]
    rw [if_pos (by omega), show (pr - pp + (fe - pf) + (it - pi * 1000000) / 1000000 == 0) = false from beq_eq_false_iff_ne.mpr (by omega), if_neg (by decide)]; exact R
theorem ow_j1 (sd : Bool) (g : gd id pr it su fe ppm st cl en le fa ct) (h1 : pr + fe ≤ 10000000000000) (h2 : pr + fe + it / 1000000 ≤ 10000000000000) (s m pf pi pp : Int) (k : Nat) (hk : 30 ≤ k) :
    annuitylaw14_LoanOwes.j1 (k + 4) s (pr + fe + it / 1000000) id pr it su fe ppm sd st cl en le fa ct m pf pi pp = some true := by
  have g' := g
  unfold gd mon at g'
  have R := ow_j2 sd g h1 h2 s m pf pi pp k hk
  simp only [annuitylaw14_LoanOwes.j1]
  rw [draw_is _ _ _ _ _ _ _ _ _ _ _ _ _ _ (k + 3) (by omega)]
  simp only [obind]
  by_cases c0 : m < 1 ∨ 1000000000 < m
  · have e : drawS id pr it su fe ppm sd st cl en le fa ct m = Zl 1 := by unfold drawS; rw [if_pos g, if_pos c0]
    rw [e, if_neg (show ¬ (Zl 1).2.2.2.2.2.2.2.2.2.2.2.2.2 = 0 by decide)]; exact R
  by_cases c : cl = 0
  case neg =>
    have e : drawS id pr it su fe ppm sd st cl en le fa ct m = Zl 61 := by unfold drawS; rw [if_pos g, if_neg c0, if_pos c]
    rw [e, if_neg (show ¬ (Zl 61).2.2.2.2.2.2.2.2.2.2.2.2.2 = 0 by decide)]; exact R
  by_cases c2 : pr + m > 10000000000000
  · have e : drawS id pr it su fe ppm sd st cl en le fa ct m = Zl 14 := by unfold drawS; rw [if_pos g, if_neg c0, if_neg (fun h => h c), if_pos c2]
    rw [e, if_neg (show ¬ (Zl 14).2.2.2.2.2.2.2.2.2.2.2.2.2 = 0 by decide)]; exact R
  have e : drawS id pr it su fe ppm sd st cl en le fa ct m = (id, pr + m, it, su, fe, ppm, sd, st, 0, en, le, fa, ct, 0) := by unfold drawS; rw [if_pos g, if_neg c0, if_neg (fun h => h c), if_neg c2]
  have g2 : gd id (pr + m) it su fe ppm st 0 en le fa ct := by unfold gd mon; omega
  rw [e]
  simp only [if_true]
  rw [owes_is _ _ _ _ _ _ _ _ _ _ _ _ _ (k + 3) (by omega), ref_good_yes sd g2]
  simp only [obind, if_true]
  by_cases o : (owesS id (pr + m) it su fe ppm st 0 en le fa ct).2 = 0
  · have o2 : pr + m + fe ≤ 10000000000000 ∧ pr + m + fe + it / 1000000 ≤ 10000000000000 := by
      unfold owesS at o
      rw [if_pos g2] at o
      by_cases a1 : pr + m + fe > 10000000000000
      · rw [if_pos a1] at o; exact absurd o (by simp)
      rw [if_neg a1] at o
      by_cases a2 : pr + m + fe + it / 1000000 > 10000000000000
      · rw [if_pos a2] at o; exact absurd o (by simp)
      omega
    rw [if_pos o, owesS_ok g2 o2.1 o2.2, w64 (e := pr + fe + it / 1000000 + m) (by omega) (by omega)]
    simp only
    rw [if_pos (by omega)]; exact R
  · rw [if_neg o]; exact R
theorem ow_j0 (sd : Bool) (g : gd id pr it su fe ppm st cl en le fa ct) (h1 : pr + fe ≤ 10000000000000) (h2 : pr + fe + it / 1000000 ≤ 10000000000000) (s m pf pi pp : Int) (k : Nat) (hk : 30 ≤ k) :
    annuitylaw14_LoanOwes.j0 (k + 5) s (pr + fe + it / 1000000) id pr it su fe ppm sd st cl en le fa ct m pf pi pp = some true := by
  have g' := g
  unfold gd mon at g'
  have R := ow_j1 sd g h1 h2 s m pf pi pp k hk
  simp only [annuitylaw14_LoanOwes.j0]
  rw [fee_is _ _ _ _ _ _ _ _ _ _ _ _ _ _ (k + 4) (by omega)]
  simp only [obind]
  by_cases c0 : m < 1 ∨ 1000000000 < m
  · have e : feeS id pr it su fe ppm sd st cl en le fa ct m = Zl 1 := by unfold feeS; rw [if_pos g, if_pos c0]
    rw [e, if_neg (show ¬ (Zl 1).2.2.2.2.2.2.2.2.2.2.2.2.2 = 0 by decide)]; exact R
  by_cases c : cl = 0
  case neg =>
    have e : feeS id pr it su fe ppm sd st cl en le fa ct m = Zl 61 := by unfold feeS; rw [if_pos g, if_neg c0, if_pos c]
    rw [e, if_neg (show ¬ (Zl 61).2.2.2.2.2.2.2.2.2.2.2.2.2 = 0 by decide)]; exact R
  by_cases c2 : fe + m > 10000000000000
  · have e : feeS id pr it su fe ppm sd st cl en le fa ct m = Zl 14 := by unfold feeS; rw [if_pos g, if_neg c0, if_neg (fun h => h c), if_pos c2]
    rw [e, if_neg (show ¬ (Zl 14).2.2.2.2.2.2.2.2.2.2.2.2.2 = 0 by decide)]; exact R
  have e : feeS id pr it su fe ppm sd st cl en le fa ct m = (id, pr, it, su, fe + m, ppm, sd, st, 0, en, le, fa, ct, 0) := by unfold feeS; rw [if_pos g, if_neg c0, if_neg (fun h => h c), if_neg c2]
  have g2 : gd id pr it su (fe + m) ppm st 0 en le fa ct := by unfold gd mon; omega
  rw [e]
  simp only [if_true]
  rw [owes_is _ _ _ _ _ _ _ _ _ _ _ _ _ (k + 4) (by omega), ref_good_yes sd g2]
  simp only [obind, if_true]
  by_cases o : (owesS id pr it su (fe + m) ppm st 0 en le fa ct).2 = 0
  · have o2 : pr + (fe + m) ≤ 10000000000000 ∧ pr + (fe + m) + it / 1000000 ≤ 10000000000000 := by
      unfold owesS at o
      rw [if_pos g2] at o
      by_cases a1 : pr + (fe + m) > 10000000000000
      · rw [if_pos a1] at o; exact absurd o (by simp)
      rw [if_neg a1] at o
      by_cases a2 : pr + (fe + m) + it / 1000000 > 10000000000000
      · rw [if_pos a2] at o; exact absurd o (by simp)
      omega
    rw [if_pos o, owesS_ok g2 o2.1 o2.2, w64 (e := pr + fe + it / 1000000 + m) (by omega) (by omega)]
    simp only
    rw [if_pos (by omega)]; exact R
  · rw [if_neg o]; exact R
end
theorem LoanOwes : annuitylaw14_LoanOwes.Pure := by
  intro id pr it su fe ppm sd st cl en le fa ct m pf pi pp s _ _ _ _ _ _ _ _ _ _ _ _ _ _ _ _ _
  obtain ⟨k, hk⟩ : ∃ k : Nat, 200 ≤ k := ⟨_, Nat.le_refl _⟩
  refine ⟨k + 5, ?_⟩
  unfold annuitylaw14_LoanOwes.f
  rw [owes_is _ _ _ _ _ _ _ _ _ _ _ _ _ (k + 5) (by omega)]
  simp only [obind]
  by_cases o : (owesS id pr it su fe ppm st cl en le fa ct).2 = 0
  case neg => rw [if_neg o, wakes14 (k + 5) (by omega)]; rfl
  rw [if_pos o]
  by_cases g : gd id pr it su fe ppm st cl en le fa ct
  case neg => unfold owesS at o; rw [if_neg g] at o; exact absurd o (by simp)
  have g' := g
  unfold gd mon at g'
  have o2 : pr + fe ≤ 10000000000000 ∧ pr + fe + it / 1000000 ≤ 10000000000000 := by
    unfold owesS at o
    rw [if_pos g] at o
    by_cases a1 : pr + fe > 10000000000000
    · rw [if_pos a1] at o; exact absurd o (by simp)
    rw [if_neg a1] at o
    by_cases a2 : pr + fe + it / 1000000 > 10000000000000
    · rw [if_pos a2] at o; exact absurd o (by simp)
    omega
  rw [owesS_ok g o2.1 o2.2]
  have R := ow_j0 sd g o2.1 o2.2 s m pf pi pp k (by omega)
  rw [cap_is _ _ _ _ _ _ _ _ _ _ _ _ _ (k + 5) (by omega)]
  simp only [obind]
  by_cases c : cl = 0
  case neg =>
    have e : capS id pr it su fe ppm sd st cl en le fa ct = Zl 61 := by unfold capS; rw [if_pos g, if_neg c]
    rw [e, if_neg (show ¬ (Zl 61).2.2.2.2.2.2.2.2.2.2.2.2.2 = 0 by decide)]; exact R
  have e : capS id pr it su fe ppm sd st cl en le fa ct = (id, pr + it / 1000000, it - it / 1000000 * 1000000, su, fe, ppm, sd, st, cl, en, le, fa, ct, 0) := by unfold capS; rw [if_pos g, if_pos c, if_neg (by omega)]
  have g2 : gd id (pr + it / 1000000) (it - it / 1000000 * 1000000) su fe ppm st cl en le fa ct := by unfold gd mon; omega
  rw [e]
  simp only [if_true]
  rw [owes_is _ _ _ _ _ _ _ _ _ _ _ _ _ (k + 5) (by omega), owesS_ok g2 (by omega) (by omega), ref_good_yes sd g2]
  simp only [obind, if_true]
  rw [if_pos (by omega), if_neg (by omega)]
  exact R
end Go.Proofs.Ytmbenmiakjhgeaa.Pure
