/- A part of a proof. -/
import Derived.Test.YtlhcohipnieidaaPx1
import Derived.Test.YtlhcohipnieidaaPx9
import Derived.Test.YtlhcohipnieidaaMoneyDiv
namespace Go.Proofs.Ytlhcohipnieidaa.Pure
set_option linter.unusedVariables false
open Go.RowKit Go.Proofs.Ytlhcohipnieidaa.P Go.Proofs.YtlhcohipnieidaaW.PrintWords Go.Proofs.YtlhcohipnieidaaW.PrintLast Go.Proofs.YtlhcohipnieidaaW.PrintMore Go.Proofs.Ytlhcohipnieidaa.PlainM
theorem money_Mul_is (a b : Int) (h1 : 0 ≤ a) (h2 : a < 18446744073709551616) (h3 : 0 ≤ b) (h4 : b < 18446744073709551616) :
    money_Mul.f a b = some (a * b / 18446744073709551616, a * b % 18446744073709551616) := by
  unfold money_Mul.f bits_Mul64.f
  rw [if_pos ⟨h1, h2, h3, h4⟩]; rfl
theorem ref_Mul_is (a b : Int) (h1 : 0 ≤ a) (h2 : a < 18446744073709551616) (h3 : 0 ≤ b) (h4 : b < 18446744073709551616) :
    annuityref01_Mul.f a b = some (a * b / 18446744073709551616, a * b % 18446744073709551616) := by
  unfold annuityref01_Mul.f
  rw [and_mask h1 h2, and_mask h3 h4]
  obtain ⟨x11, x10, x01, x00, e11, e10, e01, e00, a11, b11, a10, b10, a01, b01, a00, b00, total⟩ := mul_halves (a / 4294967296) (a % 4294967296) (b / 4294967296) (b % 4294967296) (by omega) (by omega) (by omega) (by omega) (by omega) (by omega) (by omega) (by omega)
  rw [show a / 4294967296 * 4294967296 + a % 4294967296 = a by omega, show b / 4294967296 * 4294967296 + b % 4294967296 = b by omega] at total
  rw [← e11, ← e10, ← e01, ← e00, total]
  clear e11 e10 e01 e00 total
  rw [wu_id (n := x00) (by omega) (by omega), wu_id (n := x01) (by omega) (by omega), wu_id (n := x10) (by omega) (by omega), wu_id (n := x11) (by omega) (by omega)]
  rw [wu_id (n := x10 + x00 / 4294967296) (by omega) (by omega)]
  rw [and_mask (x := x10 + x00 / 4294967296) (by omega) (by omega), and_mask a00 (by omega)]
  rw [wu_id (n := x01 + (x10 + x00 / 4294967296) % 4294967296) (by omega) (by omega)]
  simp only [wu]
  congr 2 <;> omega
def divS (hi lo c : Int) : Int × Int × Bool := if c = 0 ∨ hi ≥ c then (0, 0, false) else ((hi * 18446744073709551616 + lo) / c, (hi * 18446744073709551616 + lo) % c, true)
theorem money_Div_is (hi lo c : Int) (k : Nat) (h0 : 0 ≤ hi) (hl : 0 ≤ lo) (hl' : lo < 18446744073709551616) (hc : 0 ≤ c) (hc' : c < 18446744073709551616) (hk : 30 ≤ k) :
    money_Div.f k hi lo c = some (divS hi lo c) := by
  unfold money_Div.f divS
  by_cases c1 : c = 0
  · rw [if_pos c1, if_pos (.inl c1)]
  rw [if_neg c1]
  by_cases c2 : hi ≥ c
  · rw [if_pos c2, if_pos (.inr c2)]
  rw [if_neg c2, if_neg (by omega), Div64_is hi lo c k h0 (by omega) hc' hl hl' hk]
  rfl
theorem ref_Div_l0 (lo c hi : Int) (hc : 0 < c) (hc' : c < 18446744073709551616) (hl : 0 ≤ lo) (hl' : lo < 18446744073709551616) : ∀ (n k : Nat) (q r : Int), n ≤ 64 → 0 ≤ q → q < 2 ^ (64 - n) → 0 ≤ r → r < c →
    q * c + r = hi * 2 ^ (64 - n) + lo / 2 ^ n → n < k →
    annuityref01_Div.l0 k lo c q r ((n : Int) - 1) = some ((hi * 18446744073709551616 + lo) / c, (hi * 18446744073709551616 + lo) % c, true) := by
  intro n
  induction n with
  | zero =>
    intro k q r _ hq hq' hr hr' he hk
    obtain ⟨k, rfl⟩ : ∃ m, k = m + 1 := ⟨k - 1, by omega⟩
    simp only [annuityref01_Div.l0]
    rw [if_neg (by simp)]
    have e : q * c + r = hi * 18446744073709551616 + lo := by
      have h1 : (2 : Int) ^ (64 - 0) = 18446744073709551616 := rfl
      have h2 : lo / 2 ^ 0 = lo := by simp
      rw [h1, h2] at he; exact he
    rw [← e]
    have h1 : (q * c + r) / c = q := by
      apply quo_eq hc
      · omega
      · rw [Int.add_mul]; omega
    have h2 : (q * c + r) % c = r := by rw [Int.add_comm, Int.add_mul_emod_self_right, Int.emod_eq_of_lt hr hr']
    rw [h1, h2]
  | succ n ih =>
    intro k q r hn hq hq' hr hr' he hk
    obtain ⟨k, rfl⟩ : ∃ m, k = m + 1 := ⟨k - 1, by omega⟩
    simp only [annuityref01_Div.l0]
    rw [show (((n + 1 : Nat) : Int) - 1) = n by omega, if_pos (by omega), wu_id (n := (n : Int)) (by omega) (by omega), if_pos (by omega), w64 (e := (n : Int) - 1) (by omega) (by omega)]
    have hsh : shr .u64 lo (n : Int) = lo / 2 ^ n := by
      unfold shr
      rw [show min ((n : Int)).toNat IntKind.u64.bits = n by show min _ 64 = _; omega]
    have hp : (0 : Int) < 2 ^ n := Int.pow_pos (by decide)
    have t0 : 0 ≤ lo / 2 ^ n := Int.ediv_nonneg hl (Int.le_of_lt hp)
    have t1 : lo / 2 ^ n < 18446744073709551616 := by
      have := Int.ediv_le_self (2 ^ n) hl
      omega
    have t2 : lo / 2 ^ (n + 1) = lo / 2 ^ n / 2 := by
      rw [Int.ediv_ediv_of_nonneg (Int.le_of_lt hp), Int.pow_succ]
    have t3 : hi * 2 ^ (64 - n) = 2 * (hi * 2 ^ (64 - (n + 1))) := by
      rw [show 64 - n = 64 - (n + 1) + 1 by omega, Int.pow_succ]
      rw [← Int.mul_assoc]; omega
    have t4 : (2 : Int) ^ (64 - n) = 2 * 2 ^ (64 - (n + 1)) := by
      rw [show 64 - n = 64 - (n + 1) + 1 by omega, Int.pow_succ]; omega
    have t5 : (2 : Int) ^ (64 - (n + 1)) ≤ 9223372036854775808 := by
      have := Nat.pow_le_pow_right (n := 2) (by decide) (show 64 - (n + 1) ≤ 63 by omega)
      have h : ((2 ^ (64 - (n + 1)) : Nat) : Int) ≤ ((2 ^ 63 : Nat) : Int) := by exact_mod_cast this
      rw [Int.natCast_pow] at h; exact h
    rw [hsh, and_one t0 t1]
    rw [t2] at he
    have ihn := fun q r => ih k q r (by omega)
    rw [t3, t4] at ihn
    generalize lo / 2 ^ n = t at *
    generalize hi * 2 ^ (64 - (n + 1)) = Z at *
    generalize (2 : Int) ^ (64 - (n + 1)) = p at *
    have n1 : (2 * q) * c = 2 * (q * c) := Int.mul_assoc _ _ _
    have n2 : (2 * q + 1) * c = 2 * (q * c) + c := by rw [Int.add_mul, n1]; omega
    have w1 : IntKind.u64.wrap (q * 2) = 2 * q := by rw [wu_id (by omega) (by omega)]; omega
    have w2 : IntKind.u64.wrap (2 * q + 1) = 2 * q + 1 := wu_id (by omega) (by omega)
    rw [w1, w2]
    by_cases c1 : r / 9223372036854775808 = 1
    · rw [if_pos c1]
      have w3 : IntKind.u64.wrap (IntKind.u64.wrap (IntKind.u64.wrap (r * 2) + t % 2) - c) = 2 * r + t % 2 - c := by simp only [wu]; omega
      rw [w3]
      exact ihn _ _ (by omega) (by omega) (by omega) (by omega) (by rw [n2]; omega) (by omega)
    · rw [if_neg c1]
      have w3 : IntKind.u64.wrap (IntKind.u64.wrap (r * 2) + t % 2) = 2 * r + t % 2 := by simp only [wu]; omega
      rw [w3]
      by_cases c2 : 2 * r + t % 2 ≥ c
      · rw [if_pos c2, wu_id (by omega) (by omega)]
        exact ihn _ _ (by omega) (by omega) (by omega) (by omega) (by rw [n2]; omega) (by omega)
      · rw [if_neg c2]
        exact ihn _ _ (by omega) (by omega) (by omega) (by omega) (by rw [n1]; omega) (by omega)
theorem ref_Div_is (hi lo c : Int) (k : Nat) (h0 : 0 ≤ hi) (hl : 0 ≤ lo) (hl' : lo < 18446744073709551616) (hc : 0 ≤ c) (hc' : c < 18446744073709551616) (hk : 70 ≤ k) :
    annuityref01_Div.f k hi lo c = some (divS hi lo c) := by
  obtain ⟨k, rfl⟩ : ∃ m, k = m + 1 := ⟨k - 1, by omega⟩
  unfold annuityref01_Div.f divS
  simp only [annuityref01_Div.j0]
  by_cases c1 : c = 0
  · rw [if_pos c1, if_pos trivial, if_pos (show c = 0 ∨ hi ≥ c from .inl c1)]
  rw [if_neg c1]
  by_cases c2 : hi ≥ c
  · rw [decide_eq_true c2, if_pos rfl, if_pos (.inr c2)]
  rw [decide_eq_false c2, if_neg (by simp), if_neg (by omega)]
  have := ref_Div_l0 lo c hi (by omega) hc' hl hl' 64 k 0 hi (by omega) (by omega) (by decide) h0 (by omega) (by
    have h1 : (2 : Int) ^ (64 - 64) = 1 := rfl
    have h2 : lo / 2 ^ 64 = 0 := Int.ediv_eq_zero_of_lt hl (by
      have : (2 : Int) ^ 64 = 18446744073709551616 := rfl
      omega)
    rw [h1, h2]; omega) (by omega)
  exact this
theorem money_Good_is (a : Int) : money_Good.f a = some (decide (-10000000000000 ≤ a ∧ a ≤ 10000000000000)) := by
  unfold money_Good.f
  by_cases h : a ≥ -10000000000000
  · rw [if_pos h]; simp [h]
  · rw [if_neg h]; simp; omega
theorem ref_mGood_is (a : Int) : annuityref01_Good.f a = some (decide (-10000000000000 ≤ a ∧ a ≤ 10000000000000)) := by
  unfold annuityref01_Good.f
  by_cases h : a ≥ -10000000000000
  · rw [if_pos h]; simp [h]
  · rw [if_neg h]; simp; omega
def more (how r c q : Int) : Bool := if how = 1 then decide (r > 0) else if how = 2 then (if r > c - r then true else if r = c - r then decide (q % 2 = 1) else false) else false
def roundS (m : Bool) (q : Int) : Int × Int := if m = true then (if q + 1 > 10000000000000 then (0, 14) else (q + 1, 0)) else (q, 0)
def mdS (a b c how : Int) : Int × Int :=
  if a < 0 ∨ b < 0 ∨ c ≤ 0 ∨ how < 0 ∨ how > 2 then (0, 1) else if a * b / c > 10000000000000 then (0, 14)
  else roundS (more how (a * b % c) c (a * b / c)) (a * b / c)
theorem words (a b c : Int) (ha : 0 ≤ a) (hb : 0 ≤ b) (hc : 0 < c) (ha' : a ≤ 9223372036854775807) (hb' : b ≤ 9223372036854775807) :
    0 ≤ a * b / 18446744073709551616 ∧ 0 ≤ a * b % 18446744073709551616 ∧ a * b % 18446744073709551616 < 18446744073709551616 ∧ a * b / 18446744073709551616 * 18446744073709551616 + a * b % 18446744073709551616 = a * b ∧
    (a * b / 18446744073709551616 ≥ c → a * b / c > 10000000000000) ∧ 0 ≤ a * b / c ∧ 0 ≤ a * b % c ∧ a * b % c < c := by
  have h := Int.mul_nonneg ha hb
  refine ⟨by omega, by omega, by omega, by omega, fun hge => ?_, Int.ediv_nonneg h (by omega), Int.emod_nonneg _ (by omega), Int.emod_lt_of_pos _ hc⟩
  have : 10000000000001 ≤ a * b / c := by
    apply (quo_iff hc).2
    omega
  omega
theorem money_MulDiv_is (a b c how : Int) (k : Nat) (ha' : a ≤ 9223372036854775807) (hb' : b ≤ 9223372036854775807) (hc' : c ≤ 9223372036854775807) (hk : 40 ≤ k) :
    money_MulDiv.f k a b c how = some (mdS a b c how) := by
  obtain ⟨k, rfl⟩ : ∃ m, k = m + 3 := ⟨k - 3, by omega⟩
  unfold money_MulDiv.f mdS
  by_cases c0 : a < 0 ∨ b < 0 ∨ c ≤ 0 ∨ how < 0 ∨ how > 2
  · rw [if_pos c0]
    have e : money_MulDiv.j0 (k + 3) a b c how true = some (0, 1) := by simp only [money_MulDiv.j0, if_true]
    by_cases c1 : a < 0
    · rw [if_pos c1]; exact e
    by_cases c2 : b < 0
    · rw [if_neg c1, if_pos c2]; exact e
    by_cases c3 : c ≤ 0
    · rw [if_neg c1, if_neg c2, if_pos c3]; exact e
    by_cases c4 : how < 0
    · rw [if_neg c1, if_neg c2, if_neg c3, if_pos c4]; exact e
    rw [if_neg c1, if_neg c2, if_neg c3, if_neg c4, decide_eq_true (by omega)]; exact e
  · rw [if_neg c0, if_neg (by omega), if_neg (by omega), if_neg (by omega), if_neg (by omega), decide_eq_false (by omega)]
    simp only [money_MulDiv.j0]
    rw [if_neg (by simp), wu_id (n := a) (by omega) (by omega), wu_id (n := b) (by omega) (by omega), wu_id (n := c) (by omega) (by omega), money_Mul_is a b (by omega) (by omega) (by omega) (by omega)]
    simp only [obind]
    obtain ⟨g0, g1, g2, g3, g4, g5, g6, g7⟩ := words a b c (by omega) (by omega) (by omega) ha' hb'
    rw [money_Div_is _ _ c _ g0 g1 g2 (by omega) (by omega) (by omega)]
    simp only [obind, divS]
    rw [g3]
    generalize a * b / 18446744073709551616 = hi at *
    generalize a * b % 18446744073709551616 = lo at *
    generalize a * b / c = q at *
    generalize a * b % c = r at *
    by_cases c1 : hi ≥ c
    · rw [if_pos (show c = 0 ∨ hi ≥ c from .inr c1), if_neg (by simp), if_pos (g4 c1)]
      simp only [money_MulDiv.j1, if_true]
    · rw [if_neg (show ¬ (c = 0 ∨ hi ≥ c) by omega), if_pos rfl]
      by_cases c2 : q > 10000000000000
      · rw [if_pos c2, decide_eq_true c2]
        simp only [money_MulDiv.j1, if_true]
      · rw [if_neg c2, decide_eq_false c2]
        simp only [money_MulDiv.j1]
        rw [if_neg (by simp), wu_id (n := c) (by omega) (by omega), wu_id (n := c - r) (by omega) (by omega)]
        have hj : ∀ m : Bool, money_MulDiv.j2 (k + 1) q m = some (roundS m q) := by
          intro m
          simp only [money_MulDiv.j2]
          rw [wu_id (n := q + 1) (by omega) (by omega), w64 (e := q + 1) (by omega) (by omega), w64 (e := q) (by omega) (by omega)]
          cases m
          · rw [if_neg (by simp), if_neg c2]; rfl
          · rw [if_pos rfl]; unfold roundS; rw [if_pos rfl]; split <;> rfl
        have hb1 : (Go.bits .and .u64 q 1 == 1) = decide (q % 2 = 1) := by
          rw [and_one g5 (by omega)]; by_cases h : q % 2 = 1 <;> simp [h]
        rw [hb1]
        simp only [hj]
        by_cases h1 : how = 1
        · rw [if_pos h1]; unfold more; rw [if_pos h1]
        · rw [if_neg h1]
          by_cases h2 : how = 2
          · rw [if_pos h2]
            by_cases h3 : r > c - r
            · rw [if_pos h3]; unfold more; rw [if_neg h1, if_pos h2, if_pos h3]
            · rw [if_neg h3]
              by_cases h4 : r = c - r
              · rw [if_pos h4]; unfold more; rw [if_neg h1, if_pos h2, if_neg h3, if_pos h4]
              · rw [if_neg h4]; unfold more; rw [if_neg h1, if_pos h2, if_neg h3, if_neg h4]
          · rw [if_neg h2]; unfold more; rw [if_neg h1, if_neg h2]
theorem ref_MulDiv_is (a b c how : Int) (k : Nat) (ha' : a ≤ 9223372036854775807) (hb' : b ≤ 9223372036854775807) (hc' : c ≤ 9223372036854775807) (hk : 80 ≤ k) :
    annuityref01_MulDiv.f k a b c how = some (mdS a b c how) := by
  obtain ⟨k, rfl⟩ : ∃ m, k = m + 4 := ⟨k - 4, by omega⟩
  unfold annuityref01_MulDiv.f mdS
  by_cases c0 : a < 0 ∨ b < 0 ∨ c ≤ 0 ∨ how < 0 ∨ how > 2
  · rw [if_pos c0]
    have e : annuityref01_MulDiv.j0 (k + 4) a b c how true = some (0, 1) := by simp only [annuityref01_MulDiv.j0, if_true]
    by_cases c1 : a < 0
    · rw [if_pos c1]; exact e
    by_cases c2 : b < 0
    · rw [if_neg c1, if_pos c2]; exact e
    by_cases c3 : c ≤ 0
    · rw [if_neg c1, if_neg c2, if_pos c3]; exact e
    by_cases c4 : how < 0
    · rw [if_neg c1, if_neg c2, if_neg c3, if_pos c4]; exact e
    rw [if_neg c1, if_neg c2, if_neg c3, if_neg c4, decide_eq_true (by omega)]; exact e
  · rw [if_neg c0, if_neg (by omega), if_neg (by omega), if_neg (by omega), if_neg (by omega), decide_eq_false (by omega)]
    simp only [annuityref01_MulDiv.j0]
    rw [if_neg (by simp), wu_id (n := a) (by omega) (by omega), wu_id (n := b) (by omega) (by omega), wu_id (n := c) (by omega) (by omega), ref_Mul_is a b (by omega) (by omega) (by omega) (by omega)]
    simp only [obind]
    obtain ⟨g0, g1, g2, g3, g4, g5, g6, g7⟩ := words a b c (by omega) (by omega) (by omega) ha' hb'
    rw [ref_Div_is _ _ c _ g0 g1 g2 (by omega) (by omega) (by omega)]
    simp only [obind, divS]
    rw [g3]
    generalize a * b / 18446744073709551616 = hi at *
    generalize a * b % 18446744073709551616 = lo at *
    generalize a * b / c = q at *
    generalize a * b % c = r at *
    by_cases c1 : hi ≥ c
    · rw [if_pos (show c = 0 ∨ hi ≥ c from .inr c1), if_neg (by simp), if_pos (g4 c1)]
      simp only [annuityref01_MulDiv.j1, if_true]
    · rw [if_neg (show ¬ (c = 0 ∨ hi ≥ c) by omega), if_pos rfl]
      by_cases c2 : q > 10000000000000
      · rw [if_pos c2, decide_eq_true c2]
        simp only [annuityref01_MulDiv.j1, if_true]
      · rw [if_neg c2, decide_eq_false c2]
        simp only [annuityref01_MulDiv.j1, annuityref01_MulDiv.j2]
        rw [if_neg (by simp), w64 (e := q) (by omega) (by omega), w64 (e := q + 1) (by omega) (by omega), wu_id (n := c) (by omega) (by omega), wu_id (n := c - r) (by omega) (by omega)]
        have hj : ∀ m : Bool, annuityref01_MulDiv.j3 (k + 1) q m = some (roundS m q) := by
          intro m
          simp only [annuityref01_MulDiv.j3]
          rw [w64 (e := q + 1) (by omega) (by omega)]
          cases m
          · rw [if_neg (by simp), if_neg c2]; rfl
          · rw [if_pos rfl]; unfold roundS; rw [if_pos rfl]; split <;> rfl
        have hb1 : (Int.tmod q 2 == 1) = decide (q % 2 = 1) := by
          rw [tmod_nn g5]; by_cases h : q % 2 = 1 <;> simp [h]
        rw [hb1]
        simp only [hj]
        by_cases h1 : how = 1
        · rw [if_pos h1]
          by_cases h2 : r > 0
          · rw [decide_eq_true h2, if_pos rfl]; unfold more roundS; rw [if_pos h1, decide_eq_true h2, if_pos rfl]; split <;> rfl
          · rw [decide_eq_false h2, if_neg (by simp), if_neg (by omega), if_neg c2]; unfold more roundS; rw [if_pos h1, decide_eq_false h2, if_neg (by simp)]
        · rw [if_neg h1, if_neg (by simp)]
          by_cases h2 : how = 2
          · rw [if_pos h2]
            by_cases h3 : r > c - r
            · rw [if_pos h3]; unfold more; rw [if_neg h1, if_pos h2, if_pos h3]
            · rw [if_neg h3]
              by_cases h4 : r = c - r
              · rw [if_pos h4]; unfold more; rw [if_neg h1, if_pos h2, if_neg h3, if_pos h4]
              · rw [if_neg h4]; unfold more; rw [if_neg h1, if_pos h2, if_neg h3, if_neg h4]
          · rw [if_neg h2, if_neg c2]; unfold more roundS; rw [if_neg h1, if_neg h2, if_neg (by simp)]
end Go.Proofs.Ytlhcohipnieidaa.Pure
