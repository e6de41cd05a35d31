/- What the program and the reference make of a loan in another status, with fees and draws more. -/
import Derived.Test.YtmbenmiakjhgeaaZq
import Derived.Test.YtmbenmiakjhgeaaPx10
import Derived.Test.YtmbenmiakjhgeaaPx12
import Derived.Test.YtmbenmiakjhgeaaPx13
import Derived.Test.YtmbenmiakjhgeaaLoanRef
namespace Go.Proofs.Ytmbenmiakjhgeaa.Pure
set_option linter.unusedVariables false
set_option linter.unusedSimpArgs false
open Go.RowKit Go.Proofs.Ytmbenmiakjhgeaa.P Go.Proofs.YtmbenmiakjhgeaaW.PrintWords Go.Proofs.YtmbenmiakjhgeaaW.PrintLast Go.Proofs.YtmbenmiakjhgeaaW.PrintMore Go.Proofs.Ytmbenmiakjhgeaa.PlainM
theorem ref_turn_is (id pr it su fe ppm : Int) (sd : Bool) (st cl en le fa ct s day : Int) (k : Nat) (hk : 10 ≤ k) : annuityref14_Turn.f k id pr it su fe ppm sd st cl en le fa ct s day = some (turnS id pr it su fe ppm sd st cl en le fa ct s day) := by
  obtain ⟨k, rfl⟩ : ∃ m, k = m + 2 := ⟨k - 2, by omega⟩
  have e0 : annuityref14_Turn.j0 (k + 2) s day true id pr it su fe ppm sd st cl en le fa ct = some (Zl 1) := by simp only [annuityref14_Turn.j0, if_true]; rfl
  have e1 : annuityref14_Turn.j1 (k + 1) s day true id pr it su fe ppm sd st cl en le fa ct = some (Zl 62) := by simp only [annuityref14_Turn.j1, if_true]; rfl
  unfold annuityref14_Turn.f turnS
  rw [ref_good_is]
  simp only [obind, decide_eq_true_eq]
  by_cases g : gd id pr it su fe ppm st cl en le fa ct
  · rw [if_pos g, if_pos g]
    have g' := g
    unfold gd mon at g'
    have eg : annuityref04_Good.f day = some (decide (0 ≤ day ∧ day ≤ 87658)) := by
      unfold annuityref04_Good.f
      by_cases c : day ≥ 0
      · rw [if_pos c]; congr 1; rw [decide_eq_decide]; omega
      · rw [if_neg c, decide_eq_false (by omega)]
    rw [eg]
    simp only [obind]
    by_cases c0 : day < 0 ∨ 87658 < day
    · rw [if_pos c0, decide_eq_false (by omega)]; exact e0
    rw [if_neg c0, decide_eq_true (by omega)]
    simp only [Bool.not_true, annuityref14_Turn.j0]
    rw [if_neg (by simp)]
    by_cases c1 : cl = 0
    case neg => rw [if_neg c1, if_pos c1]; rfl
    rw [if_pos c1, if_neg (show ¬ ¬ cl = 0 from fun h => h c1)]
    have B : loan_Turn.bad st en s → annuityref14_Turn.j1 (k + 1) s day true id pr it su fe ppm sd st cl en le fa ct = some (if loan_Turn.bad st en s then Zl 62 else if s = 5 then (if pr + it / 1000000 > 10000000000000 then Zl 14 else (id, pr + it / 1000000, it - it / 1000000 * 1000000, su, fe, ppm, sd, s, 0, day, le, fa, ct, 0)) else (id, pr, it, su, fe, ppm, sd, s, 0, en, le, fa, ct, 0)) := fun b => by rw [if_pos b]; exact e1
    have O : ¬ loan_Turn.bad st en s → annuityref14_Turn.j1 (k + 1) s day false id pr it su fe ppm sd st cl en le fa ct = some (if loan_Turn.bad st en s then Zl 62 else if s = 5 then (if pr + it / 1000000 > 10000000000000 then Zl 14 else (id, pr + it / 1000000, it - it / 1000000 * 1000000, su, fe, ppm, sd, s, 0, day, le, fa, ct, 0)) else (id, pr, it, su, fe, ppm, sd, s, 0, en, le, fa, ct, 0)) := fun b => by
      rw [if_neg b]
      simp only [annuityref14_Turn.j1]
      rw [if_neg (by simp)]
      by_cases c3 : s = 5
      · rw [if_pos c3, if_pos c3, ref_cap_is]
        simp only [obind]
        unfold capS
        rw [if_pos g, if_pos c1]
        by_cases d : pr + it / 1000000 > 10000000000000
        · rw [if_pos d, if_pos d, if_neg (by simp [Zl])]; rfl
        · rw [if_neg d, if_neg d, if_pos rfl, c1]
      · rw [if_neg c3, if_neg c3, c1]
    by_cases a1 : s < 1
    · rw [if_pos a1]; exact B (by unfold loan_Turn.bad; omega)
    rw [if_neg a1]
    by_cases a2 : s > 5
    · rw [if_pos a2]; exact B (by unfold loan_Turn.bad; omega)
    rw [if_neg a2]
    by_cases a3 : s = st
    · rw [if_pos a3]; exact B (by unfold loan_Turn.bad; omega)
    rw [if_neg a3]
    by_cases a4 : s ≤ 2
    · rw [if_pos a4]
      by_cases a5 : en ≥ 0
      · rw [if_pos a5]; exact B (by unfold loan_Turn.bad; omega)
      rw [if_neg a5]
      by_cases a6 : s = 1
      · rw [if_pos a6]
        by_cases a7 : st = 2
        · rw [beq_iff_eq.mpr a7]; exact B (by unfold loan_Turn.bad; omega)
        · rw [beq_eq_false_iff_ne.mpr a7]; exact O (by unfold loan_Turn.bad; omega)
      · rw [if_neg a6]; exact O (by unfold loan_Turn.bad; omega)
    · rw [if_neg a4, if_neg (by omega)]; exact O (by unfold loan_Turn.bad; omega)
  · rw [if_neg g, if_neg g]; exact e0
/-- So much more of fees, or of principal. -/
def feeS (id pr it su fe ppm : Int) (sd : Bool) (st cl en le fa ct m : Int) : Int × Int × Int × Int × Int × Int × Bool × Int × Int × Int × Int × Int × Int × Int :=
  if gd id pr it su fe ppm st cl en le fa ct then (if m < 1 ∨ 1000000000 < m then Zl 1 else if ¬ cl = 0 then Zl 61 else if fe + m > 10000000000000 then Zl 14 else (id, pr, it, su, fe + m, ppm, sd, st, 0, en, le, fa, ct, 0)) else Zl 1
def drawS (id pr it su fe ppm : Int) (sd : Bool) (st cl en le fa ct m : Int) : Int × Int × Int × Int × Int × Int × Bool × Int × Int × Int × Int × Int × Int × Int :=
  if gd id pr it su fe ppm st cl en le fa ct then (if m < 1 ∨ 1000000000 < m then Zl 1 else if ¬ cl = 0 then Zl 61 else if pr + m > 10000000000000 then Zl 14 else (id, pr + m, it, su, fe, ppm, sd, st, 0, en, le, fa, ct, 0)) else Zl 1
theorem fee_is (id pr it su fe ppm : Int) (sd : Bool) (st cl en le fa ct m : Int) (k : Nat) (hk : 10 ≤ k) : loan_Fee.f k id pr it su fe ppm sd st cl en le fa ct m = some (feeS id pr it su fe ppm sd st cl en le fa ct m) := by
  unfold loan_Fee.f feeS
  rw [good_is _ _ _ _ _ _ _ _ _ _ _ _ _ k hk]
  simp only [obind, decide_eq_true_eq]
  by_cases g : gd id pr it su fe ppm st cl en le fa ct
  · rw [if_pos g, if_pos g]
    have g' := g
    unfold gd mon at g'
    by_cases c0 : m < 1 ∨ 1000000000 < m
    · rw [if_pos c0, if_pos c0]; rfl
    rw [if_neg c0, if_neg c0]
    by_cases c1 : ¬ cl = 0
    · rw [if_pos c1, if_pos c1]; rfl
    rw [if_neg c1, if_neg c1, madd_nn fe m (by omega) (by omega) (by omega) (by omega)]
    simp only [obind]
    by_cases d : fe + m > 10000000000000
    · rw [if_pos d, if_pos d, if_neg (by simp)]; rfl
    · rw [if_neg d, if_neg d, if_pos rfl]
  · rw [if_neg g, if_neg g]; rfl
theorem draw_is (id pr it su fe ppm : Int) (sd : Bool) (st cl en le fa ct m : Int) (k : Nat) (hk : 10 ≤ k) : loan_Draw.f k id pr it su fe ppm sd st cl en le fa ct m = some (drawS id pr it su fe ppm sd st cl en le fa ct m) := by
  unfold loan_Draw.f drawS
  rw [good_is _ _ _ _ _ _ _ _ _ _ _ _ _ k hk]
  simp only [obind, decide_eq_true_eq]
  by_cases g : gd id pr it su fe ppm st cl en le fa ct
  · rw [if_pos g, if_pos g]
    have g' := g
    unfold gd mon at g'
    by_cases c0 : m < 1 ∨ 1000000000 < m
    · rw [if_pos c0, if_pos c0]; rfl
    rw [if_neg c0, if_neg c0]
    by_cases c1 : ¬ cl = 0
    · rw [if_pos c1, if_pos c1]; rfl
    rw [if_neg c1, if_neg c1, madd_nn pr m (by omega) (by omega) (by omega) (by omega)]
    simp only [obind]
    by_cases d : pr + m > 10000000000000
    · rw [if_pos d, if_pos d, if_neg (by simp)]; rfl
    · rw [if_neg d, if_neg d, if_pos rfl]
  · rw [if_neg g, if_neg g]; rfl
theorem ref_more_is (id pr it su fe ppm : Int) (sd : Bool) (st cl en le fa ct m : Int) (fee : Bool) (k : Nat) (hk : 10 ≤ k) :
    annuityref14_more.f k id pr it su fe ppm sd st cl en le fa ct m fee = some (if fee = true then feeS id pr it su fe ppm sd st cl en le fa ct m else drawS id pr it su fe ppm sd st cl en le fa ct m) := by
  obtain ⟨k, rfl⟩ : ∃ m, k = m + 2 := ⟨k - 2, by omega⟩
  have e0 : annuityref14_more.j0 (k + 2) m fee true id pr it su fe ppm sd st cl en le fa ct = some (Zl 1) := by simp only [annuityref14_more.j0, if_true]; rfl
  unfold annuityref14_more.f feeS drawS
  rw [ref_good_is]
  simp only [obind, decide_eq_true_eq]
  by_cases g : gd id pr it su fe ppm st cl en le fa ct
  · simp only [if_pos g]
    have g' := g
    unfold gd mon at g'
    by_cases c0 : m < 1 ∨ 1000000000 < m
    · simp only [if_pos c0, ite_self]
      by_cases c : m < 1
      · rw [if_pos c]; exact e0
      · rw [if_neg c, decide_eq_true (by omega)]; exact e0
    simp only [if_neg c0]
    rw [if_neg (by omega), decide_eq_false (by omega)]
    simp only [annuityref14_more.j0]
    rw [if_neg (by simp)]
    by_cases c1 : cl = 0
    case neg => simp only [if_neg c1, if_pos c1, ite_self]; rfl
    subst c1
    rw [if_pos rfl]
    simp only [not_true_eq_false, if_false]
    cases fee with
    | true =>
      rw [if_pos rfl, if_pos rfl, ref_add_nn fe m (by omega) (by omega) (by omega) (by omega)]
      simp only [obind]
      by_cases d : fe + m > 10000000000000
      · rw [if_pos d, if_pos d, if_neg (by simp)]; rfl
      · rw [if_neg d, if_neg d, if_pos rfl]
    | false =>
      rw [if_neg (by simp), if_neg (by simp), ref_add_nn pr m (by omega) (by omega) (by omega) (by omega)]
      simp only [obind]
      by_cases d : pr + m > 10000000000000
      · rw [if_pos d, if_pos d, if_neg (by simp)]; rfl
      · rw [if_neg d, if_neg d, if_pos rfl]
  · simp only [if_neg g, ite_self]; exact e0
theorem ref_fee_is (id pr it su fe ppm : Int) (sd : Bool) (st cl en le fa ct m : Int) (k : Nat) (hk : 10 ≤ k) : annuityref14_Fee.f k id pr it su fe ppm sd st cl en le fa ct m = some (feeS id pr it su fe ppm sd st cl en le fa ct m) := by
  unfold annuityref14_Fee.f
  rw [ref_more_is _ _ _ _ _ _ _ _ _ _ _ _ _ _ _ k hk, if_pos rfl]
  simp only [obind]
theorem ref_draw_is (id pr it su fe ppm : Int) (sd : Bool) (st cl en le fa ct m : Int) (k : Nat) (hk : 10 ≤ k) : annuityref14_Draw.f k id pr it su fe ppm sd st cl en le fa ct m = some (drawS id pr it su fe ppm sd st cl en le fa ct m) := by
  unfold annuityref14_Draw.f
  rw [ref_more_is _ _ _ _ _ _ _ _ _ _ _ _ _ _ _ k hk, if_neg (by simp)]
  simp only [obind]
end Go.Proofs.Ytmbenmiakjhgeaa.Pure
