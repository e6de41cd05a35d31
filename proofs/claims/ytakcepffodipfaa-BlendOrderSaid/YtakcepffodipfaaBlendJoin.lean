/- Rate, count and the joined loan, the program's and the reference's, in plain numbers; the law's own check. -/
import Derived.Test.YtakcepffodipfaaZm
import Derived.Test.YtakcepffodipfaaPx7
import Derived.Test.YtakcepffodipfaaPx10
import Derived.Test.YtakcepffodipfaaPx11
import Derived.Test.YtakcepffodipfaaPx12
import Derived.Test.YtakcepffodipfaaPx15
import Derived.Test.YtakcepffodipfaaPx30
import Derived.Test.YtakcepffodipfaaBlendEv
namespace Go.Proofs.Ytakcepffodipfaa.PureB
set_option linter.unusedVariables false
set_option linter.unusedSimpArgs false
open Go.RowKit Go.Proofs.Ytakcepffodipfaa.P Go.Proofs.YtakcepffodipfaaW.PrintWords Go.Proofs.YtakcepffodipfaaW.PrintLast Go.Proofs.YtakcepffodipfaaW.PrintMore Go.Proofs.Ytakcepffodipfaa.PlainM Go.Proofs.Ytakcepffodipfaa.PlainL
open Go.Proofs.Ytakcepffodipfaa.PureLo (owesS good_is owes_is ref_good_is ref_owes_is mon)
open Go.Proofs.Ytakcepffodipfaa.Pure (mn_is Of_both ref_Of_is of_at)
/-- The next step of 1250, at most 1000000. -/
def stp (n : Int) : Int := if (n + 1249) / 1250 * 1250 ≤ 1000000 then (n + 1249) / 1250 * 1250 else 1000000
def rateS (l : List S31) : Int × Int := if (wS l).2.2 = 0 then (stp (cd (dt (fun x => x.f5) l) (wS l).2.1), 0) else (0, (wS l).2.2)
def countS (l : List S31) : Int × Int := if (wS l).2.2 = 0 then (cd (dt (fun x => x.f12) l) (wS l).2.1, 0) else (0, (wS l).2.2)
theorem ppm_bd (x : S31) (h : Ok x) : 0 ≤ x.f5 ∧ x.f5 ≤ 1000000 := by
  have g := h.1
  unfold G Go.Proofs.Ytakcepffodipfaa.PureLo.gd at g
  exact g.2.2.2.1.1
theorem count_bd (x : S31) (h : Ok x) : 0 ≤ x.f12 ∧ x.f12 ≤ 1000000 := by
  have g := h.1
  unfold G Go.Proofs.Ytakcepffodipfaa.PureLo.gd at g
  exact ⟨g.2.2.2.2.2.1, h.2.2⟩
theorem cd_bd (of : S31 → Int) (ho : ∀ x, Ok x → 0 ≤ of x ∧ of x ≤ 1000000) (l : List S31) (c : (wS l).2.2 = 0) : 0 ≤ cd (dt of l) (wS l).2.1 ∧ cd (dt of l) (wS l).2.1 ≤ 1000000 := by
  have g := wS_ok c
  have b := dt_bd of l (fun x hx => (g.bd x hx).1) (fun x hx => ho x (g.ok x hx))
  exact (by_is (dt of l) _ 30 (by omega) b.1 g.a0 g.a1 (by rw [← g.al] at b; exact b.2)).2
theorem rate_is (l : List S31) (k : Nat) (hk : 200 ≤ k) : blend_Rate.f k l = some (rateS l) := by
  unfold blend_Rate.f rateS
  rw [mean_is _ ppm_bd l k hk]
  simp only [obind]
  by_cases c : (wS l).2.2 = 0
  · have b := cd_bd _ ppm_bd l c
    rw [if_pos c, if_pos c]
    simp only [if_true]
    obtain ⟨q, hq⟩ : ∃ q, q = cd (dt (fun x => x.f5) l) (wS l).2.1 := ⟨_, rfl⟩
    rw [← hq] at b ⊢
    rw [w64 (e := q + 1250) (by omega) (by omega), show q + 1250 - 1 = q + 1249 by omega, w64 (e := q + 1249) (by omega) (by omega), tdiv_nn (by omega), w64 (e := (q + 1249) / 1250) (by omega) (by omega), w64 (by omega) (by omega), mn_is]
    rfl
  · rw [if_neg c, if_neg c, if_neg c]
theorem count_is (l : List S31) (k : Nat) (hk : 200 ≤ k) : blend_Count.f k l = some (countS l) := by
  unfold blend_Count.f countS
  rw [mean_is _ count_bd l k hk]
  rfl
/-! ### The joined loan -/
theorem good_day (d : Int) : date_Good.f d = some (decide (0 ≤ d ∧ d ≤ 87658)) := by
  unfold date_Good.f
  by_cases h : d ≥ 0
  · rw [if_pos h]; simp; omega
  · rw [if_neg h]; simp; omega
/-! ### The law's own check, copies -/
theorem wakes21 (k : Nat) (hk : 1000 ≤ k) : annuitylaw21_wakes.f k = some true := by
  have e : wS [(⟨1, 100, 0, 0, 0, 50000, false, 5, 0, 0, 0, 0, 4⟩ : S31), (⟨2, 100, 0, 0, 0, 60000, false, 5, 0, 0, 0, 0, 5⟩ : S31)] = ([100, 100], 200, 0) := by kernel_rfl
  have e1 : wS [(⟨1, 100, 0, 0, 0, 50000, false, 5, 0, 0, 0, 0, 4⟩ : S31)] = ([], 0, 64) := by kernel_rfl
  have r : rateS [(⟨1, 100, 0, 0, 0, 50000, false, 5, 0, 0, 0, 0, 4⟩ : S31), (⟨2, 100, 0, 0, 0, 60000, false, 5, 0, 0, 0, 0, 5⟩ : S31)] = (55000, 0) := by unfold rateS; rw [e]; kernel_rfl
  have r1 : rateS [(⟨1, 100, 0, 0, 0, 50000, false, 5, 0, 0, 0, 0, 4⟩ : S31)] = (0, 64) := by unfold rateS; rw [e1]; rfl
  have c : countS [(⟨1, 100, 0, 0, 0, 50000, false, 5, 0, 0, 0, 0, 4⟩ : S31), (⟨2, 100, 0, 0, 0, 60000, false, 5, 0, 0, 0, 0, 5⟩ : S31)] = (5, 0) := by unfold countS; rw [e]; kernel_rfl
  have s : plan_Set.f (k - 1) 9 200 0 0 0 55000 false 5 0 40 0 0 5 = some (9, 200, 0, 0, 0, 55000, false, 5, 0, 40, 3, 2, 5, 0) := by
    have o1 := of_at (b := 200) (r := 55000) (m := 120) (p := 3) (by unfold Go.Proofs.Ytakcepffodipfaa.Pure.May; decide) (by decide) (by decide) (by decide) (by unfold En; kernel_rfl) (.inr (by unfold En; rw [show leftS (3 - 1) 55000 (120 : Int).toNat 200 = (80, 0) by kernel_rfl]; decide)) (k - 1) (by omega)
    have o2 := of_at (b := 200) (r := 55000) (m := 300) (p := 2) (by unfold Go.Proofs.Ytakcepffodipfaa.Pure.May; decide) (by decide) (by decide) (by decide) (by unfold En; kernel_rfl) (.inr (by unfold En; rw [show leftS (2 - 1) 55000 (300 : Int).toNat 200 = (200, 0) by kernel_rfl]; decide)) (k - 1) (by omega)
    unfold plan_Set.f
    rw [good_is _ _ _ _ _ _ _ _ _ _ _ _ _ (k - 1) (by omega), o1, o2]
    simp only [obind, decide_eq_true_eq]
    rw [if_pos (by decide), if_pos trivial]
    rfl
  have j : blend_Join.f k [(⟨1, 100, 0, 0, 0, 50000, false, 5, 0, 0, 0, 0, 4⟩ : S31), (⟨2, 100, 0, 0, 0, 60000, false, 5, 0, 0, 0, 0, 5⟩ : S31)] 9 40 = some (9, 200, 0, 0, 0, 55000, false, 5, 0, 40, 3, 2, 5, 0) := by
    obtain ⟨k, rfl⟩ : ∃ m, k = m + 1 := ⟨k - 1, by omega⟩
    unfold blend_Join.f
    rw [if_neg (by decide), if_neg (by decide), good_day]
    simp only [obind]
    rw [decide_eq_true (by decide), Bool.not_true, blend_Join.j0, if_neg (by simp), weights_is _ _ (by omega), rate_is _ _ (by omega), count_is _ _ (by omega), e, r, c]
    simp only [obind, if_true]
    rw [show k + 1 - 1 = k by omega] at s
    rw [s]
    simp only [obind]
  unfold annuitylaw21_wakes.f
  simp only [obind]
  rw [rate_is _ k (by omega), count_is _ k (by omega), j]
  simp only [obind]
  rw [if_pos (by decide)]
  simp only [List.take_succ_cons, List.take_zero]
  rw [rate_is _ k (by omega), r, r1, c]
  simp only [obind, if_true]
  rfl
theorem copy_is (l : List S31) (hl : l.length ≤ 1000) : annuitykeep_CopyLoans.f l = some l := by
  unfold annuitykeep_CopyLoans.f
  simp only [obind, List.length_nil, List.nil_append]
  rw [if_pos (by omega)]
end Go.Proofs.Ytakcepffodipfaa.PureB
