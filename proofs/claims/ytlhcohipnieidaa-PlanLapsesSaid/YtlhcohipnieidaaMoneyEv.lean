/- What the functions on money, the program's and the reference's, come to, in plain numbers, for every number of rounds that is large enough. -/
import Derived.Test.YtlhcohipnieidaaPx1
import Derived.Test.YtlhcohipnieidaaPx9
import Derived.Test.YtlhcohipnieidaaMoneyDiv
namespace Go.Proofs.Ytlhcohipnieidaa.Pure
set_option linter.unusedVariables false
open Go.RowKit Go.Proofs.Ytlhcohipnieidaa.P Go.Proofs.YtlhcohipnieidaaW.PrintWords Go.Proofs.YtlhcohipnieidaaW.PrintLast Go.Proofs.YtlhcohipnieidaaW.PrintMore Go.Proofs.Ytlhcohipnieidaa.PlainM

theorem money_Mul_is (a b : Int) (h1 : 0 ≤ a) (h2 : a < 18446744073709551616) (h3 : 0 ≤ b) (h4 : b < 18446744073709551616) :
    money_Mul.f a b = some (a * b / 18446744073709551616, a * b % 18446744073709551616) := by
  unfold money_Mul.f bits_Mul64.f
  rw [if_pos ⟨h1, h2, h3, h4⟩]; rfl
/-- A quotient and a rest, if there are some. -/
def divS (hi lo c : Int) : Int × Int × Bool := if c = 0 ∨ hi ≥ c then (0, 0, false) else ((hi * 18446744073709551616 + lo) / c, (hi * 18446744073709551616 + lo) % c, true)
theorem money_Div_is (hi lo c : Int) (k : Nat) (h0 : 0 ≤ hi) (hl : 0 ≤ lo) (hl' : lo < 18446744073709551616) (hc : 0 ≤ c) (hc' : c < 18446744073709551616) (hk : 30 ≤ k) :
    money_Div.f k hi lo c = some (divS hi lo c) := by
  unfold money_Div.f divS
  by_cases c1 : c = 0
  · rw [if_pos c1, if_pos (.inl c1)]
  rw [if_neg c1]
  by_cases c2 : hi ≥ c
  · rw [if_pos c2, if_pos (.inr c2)]
  rw [if_neg c2, if_neg (by omega), Div64_is hi lo c k h0 (by omega) hc' hl hl' hk]
  rfl
theorem money_Good_is (a : Int) : money_Good.f a = some (decide (-10000000000000 ≤ a ∧ a ≤ 10000000000000)) := by
  unfold money_Good.f
  by_cases h : a ≥ -10000000000000
  · rw [if_pos h]; simp [h]
  · rw [if_neg h]; simp; omega
/-- Is a quotient made greater? -/
def more (how r c q : Int) : Bool := if how = 1 then decide (r > 0) else if how = 2 then (if r > c - r then true else if r = c - r then decide (q % 2 = 1) else false) else false
def roundS (m : Bool) (q : Int) : Int × Int := if m = true then (if q + 1 > 10000000000000 then (0, 14) else (q + 1, 0)) else (q, 0)
/-- A product by a number, rounded. -/
def mdS (a b c how : Int) : Int × Int :=
  if a < 0 ∨ b < 0 ∨ c ≤ 0 ∨ how < 0 ∨ how > 2 then (0, 1) else if a * b / c > 10000000000000 then (0, 14)
  else roundS (more how (a * b % c) c (a * b / c)) (a * b / c)
/-- What is known of a product's two words and of its quotient. -/
theorem words (a b c : Int) (ha : 0 ≤ a) (hb : 0 ≤ b) (hc : 0 < c) (ha' : a ≤ 9223372036854775807) (hb' : b ≤ 9223372036854775807) :
    0 ≤ a * b / 18446744073709551616 ∧ 0 ≤ a * b % 18446744073709551616 ∧ a * b % 18446744073709551616 < 18446744073709551616 ∧ a * b / 18446744073709551616 * 18446744073709551616 + a * b % 18446744073709551616 = a * b ∧
    (a * b / 18446744073709551616 ≥ c → a * b / c > 10000000000000) ∧ 0 ≤ a * b / c ∧ 0 ≤ a * b % c ∧ a * b % c < c := by
  have h := Int.mul_nonneg ha hb
  refine ⟨by omega, by omega, by omega, by omega, fun hge => ?_, Int.ediv_nonneg h (by omega), Int.emod_nonneg _ (by omega), Int.emod_lt_of_pos _ hc⟩
  have : 10000000000001 ≤ a * b / c := by
    apply (quo_iff hc).2
    omega
  omega
theorem money_MulDiv_is (a b c how : Int) (k : Nat) (ha' : a ≤ 9223372036854775807) (hb' : b ≤ 9223372036854775807) (hc' : c ≤ 9223372036854775807) (hk : 40 ≤ k) :
    money_MulDiv.f k a b c how = some (mdS a b c how) := by
  obtain ⟨k, rfl⟩ : ∃ m, k = m + 3 := ⟨k - 3, by omega⟩
  unfold money_MulDiv.f mdS
  by_cases c0 : a < 0 ∨ b < 0 ∨ c ≤ 0 ∨ how < 0 ∨ how > 2
  · rw [if_pos c0]
    have e : money_MulDiv.j0 (k + 3) a b c how true = some (0, 1) := by simp only [money_MulDiv.j0, if_true]
    by_cases c1 : a < 0
    · rw [if_pos c1]; exact e
    by_cases c2 : b < 0
    · rw [if_neg c1, if_pos c2]; exact e
    by_cases c3 : c ≤ 0
    · rw [if_neg c1, if_neg c2, if_pos c3]; exact e
    by_cases c4 : how < 0
    · rw [if_neg c1, if_neg c2, if_neg c3, if_pos c4]; exact e
    rw [if_neg c1, if_neg c2, if_neg c3, if_neg c4, decide_eq_true (by omega)]; exact e
  · rw [if_neg c0, if_neg (by omega), if_neg (by omega), if_neg (by omega), if_neg (by omega), decide_eq_false (by omega)]
    simp only [money_MulDiv.j0]
    rw [if_neg (by simp), wu_id (n := a) (by omega) (by omega), wu_id (n := b) (by omega) (by omega), wu_id (n := c) (by omega) (by omega), money_Mul_is a b (by omega) (by omega) (by omega) (by omega)]
    simp only [obind]
    obtain ⟨g0, g1, g2, g3, g4, g5, g6, g7⟩ := words a b c (by omega) (by omega) (by omega) ha' hb'
    rw [money_Div_is _ _ c _ g0 g1 g2 (by omega) (by omega) (by omega)]
    simp only [obind, divS]
    rw [g3]
    generalize a * b / 18446744073709551616 = hi at *
    generalize a * b % 18446744073709551616 = lo at *
    generalize a * b / c = q at *
    generalize a * b % c = r at *
    by_cases c1 : hi ≥ c
    · rw [if_pos (show c = 0 ∨ hi ≥ c from .inr c1), if_neg (by simp), if_pos (g4 c1)]
      simp only [money_MulDiv.j1, if_true]
    · rw [if_neg (show ¬ (c = 0 ∨ hi ≥ c) by omega), if_pos rfl]
      by_cases c2 : q > 10000000000000
      · rw [if_pos c2, decide_eq_true c2]
        simp only [money_MulDiv.j1, if_true]
      · rw [if_neg c2, decide_eq_false c2]
        simp only [money_MulDiv.j1]
        rw [if_neg (by simp), wu_id (n := c) (by omega) (by omega), wu_id (n := c - r) (by omega) (by omega)]
        have hj : ∀ m : Bool, money_MulDiv.j2 (k + 1) q m = some (roundS m q) := by
          intro m
          simp only [money_MulDiv.j2]
          rw [wu_id (n := q + 1) (by omega) (by omega), w64 (e := q + 1) (by omega) (by omega), w64 (e := q) (by omega) (by omega)]
          cases m
          · rw [if_neg (by simp), if_neg c2]; rfl
          · rw [if_pos rfl]; unfold roundS; rw [if_pos rfl]; split <;> rfl
        have hb1 : (Go.bits .and .u64 q 1 == 1) = decide (q % 2 = 1) := by
          rw [and_one g5 (by omega)]; by_cases h : q % 2 = 1 <;> simp [h]
        rw [hb1]
        simp only [hj]
        by_cases h1 : how = 1
        · rw [if_pos h1]; unfold more; rw [if_pos h1]
        · rw [if_neg h1]
          by_cases h2 : how = 2
          · rw [if_pos h2]
            by_cases h3 : r > c - r
            · rw [if_pos h3]; unfold more; rw [if_neg h1, if_pos h2, if_pos h3]
            · rw [if_neg h3]
              by_cases h4 : r = c - r
              · rw [if_pos h4]; unfold more; rw [if_neg h1, if_pos h2, if_neg h3, if_pos h4]
              · rw [if_neg h4]; unfold more; rw [if_neg h1, if_pos h2, if_neg h3, if_neg h4]
          · rw [if_neg h2]; unfold more; rw [if_neg h1, if_neg h2]
end Go.Proofs.Ytlhcohipnieidaa.Pure
