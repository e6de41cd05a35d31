/- What the functions on loans come to, in plain numbers, for every number of rounds that is large enough. -/
import Derived.Test.YtlhcohipnieidaaZll
import Derived.Test.YtlhcohipnieidaaPx1
import Derived.Test.YtlhcohipnieidaaMoneyAdd
namespace Go.Proofs.Ytlhcohipnieidaa.PureLo
set_option linter.unusedVariables false
set_option linter.unusedSimpArgs false
open Go.RowKit Go.Proofs.Ytlhcohipnieidaa.P Go.Proofs.YtlhcohipnieidaaW.PrintWords Go.Proofs.YtlhcohipnieidaaW.PrintLast Go.Proofs.YtlhcohipnieidaaW.PrintMore Go.Proofs.Ytlhcohipnieidaa.PlainM Go.Proofs.Ytlhcohipnieidaa.PureL
/-- Money that is not below 0. -/
def mon (a : Int) : Prop := 0 ≤ a ∧ a ≤ 10000000000000
instance (a : Int) : Decidable (mon a) := by unfold mon; infer_instance
/-- A good loan. -/
def gd (id pr it su fe ppm st cl en le fa ct : Int) : Prop :=
  (1 ≤ id ∧ id ≤ 1000) ∧ (mon pr ∧ mon fe ∧ mon le ∧ mon fa) ∧ ((0 ≤ it ∧ it ≤ 1000000000000000000) ∧ 0 ≤ su ∧ su ≤ 1000000000000000000) ∧ ((0 ≤ ppm ∧ ppm ≤ 1000000) ∧ (1 ≤ st ∧ st ≤ 5) ∧ 0 ≤ cl ∧ cl ≤ 4) ∧ (-1 ≤ en ∧ en ≤ 87658) ∧ 0 ≤ ct ∧ (cl = 0 ∨ pr = 0 ∧ it = 0 ∧ fe = 0)
instance (id pr it su fe ppm st cl en le fa ct : Int) : Decidable (gd id pr it su fe ppm st cl en le fa ct) := by unfold gd; infer_instance
theorem cents_step (l : List Int) (k j : Nat) (hj : j < 4) (h4 : l.length = 4) :
    loan_cents.l0 (k + 1) l 4 (j : Int) = if mon (rd l j) then loan_cents.l0 k l 4 ((j + 1 : Nat) : Int) else some false := by
  simp only [loan_cents.l0]
  rw [if_pos (by omega), if_pos (by omega), if_pos (by rw [h4]; omega)]
  by_cases c1 : rd l j < 0
  · rw [if_pos c1, if_neg (by unfold mon; omega)]
  · rw [if_neg c1, money_Good_is]
    simp only [obind]
    rw [w64 (by omega) (by omega)]
    by_cases c2 : -10000000000000 ≤ rd l j ∧ rd l j ≤ 10000000000000
    · rw [decide_eq_true c2, if_pos rfl, if_pos (by unfold mon; omega)]; rfl
    · rw [decide_eq_false c2, if_neg (by simp), if_neg (by unfold mon; omega)]
theorem cents_is (a b c d : Int) (k : Nat) (hk : 10 ≤ k) : loan_cents.f k [a, b, c, d] = some (decide (mon a ∧ mon b ∧ mon c ∧ mon d)) := by
  obtain ⟨k, rfl⟩ : ∃ m, k = m + 5 := ⟨k - 5, by omega⟩
  unfold loan_cents.f
  rw [show (([a, b, c, d] : List Int).length : Int) = 4 from rfl, show (0 : Int) = ((0 : Nat) : Int) from rfl, cents_step _ (k + 4) 0 (by omega) rfl, cents_step _ (k + 3) 1 (by omega) rfl, cents_step _ (k + 2) 2 (by omega) rfl, cents_step _ (k + 1) 3 (by omega) rfl]
  have e : loan_cents.l0 (k + 1) [a, b, c, d] 4 ((3 + 1 : Nat) : Int) = some true := by simp only [loan_cents.l0]; rw [if_neg (by omega)]
  rw [e, show rd [a, b, c, d] ((0 : Nat) : Int) = a from rfl, show rd [a, b, c, d] ((1 : Nat) : Int) = b from rfl, show rd [a, b, c, d] ((2 : Nat) : Int) = c from rfl, show rd [a, b, c, d] ((3 : Nat) : Int) = d from rfl]
  by_cases h1 : mon a
  · rw [if_pos h1]
    by_cases h2 : mon b
    · rw [if_pos h2]
      by_cases h3 : mon c
      · rw [if_pos h3]
        by_cases h4 : mon d
        · rw [if_pos h4, decide_eq_true ⟨h1, h2, h3, h4⟩]
        · rw [if_neg h4, decide_eq_false (fun h => h4 h.2.2.2)]
      · rw [if_neg h3, decide_eq_false (fun h => h3 h.2.2.1)]
    · rw [if_neg h2, decide_eq_false (fun h => h2 h.2.1)]
  · rw [if_neg h1, decide_eq_false (fun h => h1 h.1)]
theorem good_is (id pr it su fe ppm : Int) (sd : Bool) (st cl en le fa ct : Int) (k : Nat) (hk : 10 ≤ k) :
    loan_Good.f k id pr it su fe ppm sd st cl en le fa ct = some (decide (gd id pr it su fe ppm st cl en le fa ct)) := by
  obtain ⟨k, rfl⟩ : ∃ m, k = m + 4 := ⟨k - 4, by omega⟩
  have e2 : ∀ k, loan_Good.j2 (k + 1) true id pr it su fe ppm sd st cl en le fa ct = some false := fun k => by simp only [loan_Good.j2, if_true]
  have e1 : ∀ k, loan_Good.j1 (k + 1) true id pr it su fe ppm sd st cl en le fa ct = some false := fun k => by simp only [loan_Good.j1, if_true]
  have e0 : ∀ k, loan_Good.j0 (k + 1) true id pr it su fe ppm sd st cl en le fa ct = some false := fun k => by simp only [loan_Good.j0, if_true]
  have F : ¬ gd id pr it su fe ppm st cl en le fa ct → some false = some (decide (gd id pr it su fe ppm st cl en le fa ct)) := fun h => by rw [decide_eq_false h]
  unfold loan_Good.f
  by_cases h1 : id < 1
  · rw [if_pos h1, e0]; exact F (fun h => by unfold gd at h; omega)
  rw [if_neg h1]
  by_cases h2 : id > 1000
  · rw [if_pos h2, e0]; exact F (fun h => by unfold gd at h; omega)
  rw [if_neg h2, cents_is _ _ _ _ _ (by omega)]
  simp only [obind]
  by_cases h3 : mon pr ∧ mon fe ∧ mon le ∧ mon fa
  case neg => rw [decide_eq_false h3]; simp only [Bool.not_false]; rw [e0]; exact F (fun h => h3 h.2.1)
  rw [decide_eq_true h3]
  simp only [Bool.not_true, loan_Good.j0]
  rw [if_neg (by simp)]
  by_cases h4 : it < 0
  · rw [if_pos h4, e1]; exact F (fun h => by unfold gd at h; omega)
  rw [if_neg h4]
  by_cases h5 : it > 1000000000000000000
  · rw [if_pos h5, e1]; exact F (fun h => by unfold gd at h; omega)
  rw [if_neg h5]
  by_cases h6 : su < 0
  · rw [if_pos h6, e1]; exact F (fun h => by unfold gd at h; omega)
  rw [if_neg h6]
  by_cases h7 : su > 1000000000000000000
  · rw [decide_eq_true h7, e1]; exact F (fun h => by unfold gd at h; omega)
  rw [decide_eq_false h7]
  simp only [loan_Good.j1]
  rw [if_neg (by simp)]
  by_cases h8 : ppm < 0
  · rw [if_pos h8, e2]; exact F (fun h => by unfold gd at h; omega)
  rw [if_neg h8]
  by_cases h9 : ppm > 1000000
  · rw [if_pos h9, e2]; exact F (fun h => by unfold gd at h; omega)
  rw [if_neg h9]
  by_cases h10 : st < 1
  · rw [if_pos h10, e2]; exact F (fun h => by unfold gd at h; omega)
  rw [if_neg h10]
  by_cases h11 : st > 5
  · rw [if_pos h11, e2]; exact F (fun h => by unfold gd at h; omega)
  rw [if_neg h11]
  by_cases h12 : cl < 0
  · rw [if_pos h12, e2]; exact F (fun h => by unfold gd at h; omega)
  rw [if_neg h12]
  by_cases h13 : cl > 4
  · rw [decide_eq_true h13, e2]; exact F (fun h => by unfold gd at h; omega)
  rw [decide_eq_false h13]
  simp only [loan_Good.j2]
  rw [if_neg (by simp)]
  by_cases h14 : en < -1
  · rw [if_pos h14]; exact F (fun h => by unfold gd at h; omega)
  rw [if_neg h14]
  by_cases h15 : en > 87658
  · rw [if_pos h15]; exact F (fun h => by unfold gd at h; omega)
  rw [if_neg h15]
  by_cases h16 : ct < 0
  · rw [if_pos h16]; exact F (fun h => by unfold gd at h; omega)
  rw [if_neg h16]
  have G : ∀ {b : Bool}, (b = true ↔ (cl = 0 ∨ pr = 0 ∧ it = 0 ∧ fe = 0)) → some b = some (decide (gd id pr it su fe ppm st cl en le fa ct)) := fun {b} h => by
    have e : (gd id pr it su fe ppm st cl en le fa ct) ↔ (cl = 0 ∨ pr = 0 ∧ it = 0 ∧ fe = 0) :=
      ⟨fun h => h.2.2.2.2.2.2, fun h => ⟨by omega, h3, ⟨by omega, by omega⟩, ⟨by omega, by omega, by omega⟩, by omega, by omega, h⟩⟩
    cases b with
    | true => rw [decide_eq_true (e.mpr (h.mp rfl))]
    | false => rw [decide_eq_false (fun c => by have := h.mpr (e.mp c); cases this)]
  by_cases h17 : cl = 0
  · rw [if_pos h17]; exact G ⟨fun _ => .inl h17, fun _ => rfl⟩
  rw [if_neg h17]
  by_cases h18 : pr = 0
  case neg => rw [if_neg h18]; exact G ⟨fun h => by simp at h, fun h => by omega⟩
  rw [if_pos h18]
  by_cases h19 : it = 0
  case neg => rw [if_neg h19]; exact G ⟨fun h => by simp at h, fun h => by omega⟩
  rw [if_pos h19]
  exact G ⟨fun h => .inr ⟨h18, h19, by simpa using h⟩, fun h => by simp; omega⟩
/-- The sum of two that are not below 0. -/
theorem addS_nn (a b : Int) (ha : 0 ≤ a) (ha' : a ≤ 10000000000000) (hb : 0 ≤ b) (hb' : b ≤ 10000000000000) : addS a b = if a + b > 10000000000000 then (0, 14) else (a + b, 0) := by
  unfold addS isMoney
  by_cases c : a + b > 10000000000000
  · rw [if_pos c, if_neg (by simp; omega)]
  · rw [if_neg c, if_pos (by simp; omega)]
theorem madd_nn (a b : Int) (ha : 0 ≤ a) (ha' : a ≤ 10000000000000) (hb : 0 ≤ b) (hb' : b ≤ 10000000000000) : money_Add.f a b = some (if a + b > 10000000000000 then (0, 14) else (a + b, 0)) := by
  rw [money_Add_is, addS_nn a b ha ha' hb hb']
/-- What a loan owes. -/
def owesS (id pr it su fe ppm st cl en le fa ct : Int) : Int × Int :=
  if gd id pr it su fe ppm st cl en le fa ct then (if pr + fe > 10000000000000 then (0, 14) else if pr + fe + it / 1000000 > 10000000000000 then (0, 14) else (pr + fe + it / 1000000, 0)) else (0, 1)
theorem owes_is (id pr it su fe ppm : Int) (sd : Bool) (st cl en le fa ct : Int) (k : Nat) (hk : 10 ≤ k) : loan_Owes.f k id pr it su fe ppm sd st cl en le fa ct = some (owesS id pr it su fe ppm st cl en le fa ct) := by
  unfold loan_Owes.f owesS
  rw [good_is _ _ _ _ _ _ _ _ _ _ _ _ _ k hk]
  simp only [obind, decide_eq_true_eq]
  by_cases g : gd id pr it su fe ppm st cl en le fa ct
  · rw [if_pos g, if_pos g]
    have g' := g
    unfold gd mon at g'
    rw [if_pos g'.2.2.1.1, madd_nn pr fe (by omega) (by omega) (by omega) (by omega)]
    simp only [obind]
    by_cases c : pr + fe > 10000000000000
    · rw [if_pos c, if_pos c, if_neg (by simp)]
    · rw [if_neg c, if_neg c, if_pos rfl, madd_nn (pr + fe) (it / 1000000) (by omega) (by omega) (by omega) (by omega)]
      simp only [obind]
      by_cases d : pr + fe + it / 1000000 > 10000000000000
      · rw [if_pos d, if_neg (by simp)]
      · rw [if_neg d, if_pos rfl]
  · rw [if_neg g, if_neg g]
end Go.Proofs.Ytlhcohipnieidaa.PureLo
