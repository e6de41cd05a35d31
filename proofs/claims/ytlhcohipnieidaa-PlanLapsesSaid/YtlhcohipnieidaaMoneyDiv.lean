/- What the library's quotient of 128 bits by 64 comes to, in plain numbers: the quotient and the rest; for every number that is below the divisor's reach. -/
import Derived.Test.YtlhcohipnieidaaPx1
import Derived.Test.YtlhcohipnieidaaPx9
import Derived.Test.YtlhcohipnieidaaPlainMoney
namespace Go.Proofs.Ytlhcohipnieidaa.Pure
set_option linter.unusedVariables false
open Go.RowKit Go.Proofs.Ytlhcohipnieidaa.P Go.Proofs.YtlhcohipnieidaaW.PrintWords Go.Proofs.YtlhcohipnieidaaW.PrintLast Go.Proofs.YtlhcohipnieidaaW.PrintMore Go.Proofs.Ytlhcohipnieidaa.PlainM

/-- What the rounds of a half keep: the guess is not below the quotient. -/
theorem guess_down {u d y1 y0 q rh : Int} (h1 : 2147483648 ≤ y1) (h0 : 0 ≤ y0) (h0' : y0 < 4294967296) (hd : 0 ≤ d)
    (hq : (u * 4294967296 + d) / (y1 * 4294967296 + y0) ≤ q) (hqu : q ≤ 4294967297) (hr : rh = u - q * y1)
    (hgt : (u * 4294967296 + d) / (y1 * 4294967296 + y0) < q) :
    (u * 4294967296 + d) / (y1 * 4294967296 + y0) ≤ q - 1 ∧ rh + y1 = u - (q - 1) * y1 ∧ (4294967296 ≤ rh + y1 → (u * 4294967296 + d) / (y1 * 4294967296 + y0) = q - 1) := by
  have e1 : (q - 1) * y1 = q * y1 - y1 := by rw [Int.sub_mul]; omega
  refine ⟨by omega, by omega, fun hb => ?_⟩
  have : q - 1 ≤ (u * 4294967296 + d) / (y1 * 4294967296 + y0) := by
    apply (quo_iff (by omega)).2
    have e2 : (q - 1) * (y1 * 4294967296 + y0) = (q - 1) * y1 * 4294967296 + (q - 1) * y0 := by rw [Int.mul_add, Int.mul_assoc]
    have e3 : (q - 1) * y0 ≤ 4294967296 * y0 := Int.mul_le_mul_of_nonneg_right (by omega) h0
    rw [e2]; omega
  omega
/-- The test of a half's round is whether the guess is above the quotient. -/
theorem guess_test {u d y1 y0 q rh : Int} (h1 : 2147483648 ≤ y1) (h0 : 0 ≤ y0) (hr : rh = u - q * y1) :
    (4294967296 * rh + d < q * y0) ↔ (u * 4294967296 + d) / (y1 * 4294967296 + y0) < q := by
  have e2 : q * (y1 * 4294967296 + y0) = q * y1 * 4294967296 + q * y0 := by rw [Int.mul_add, Int.mul_assoc]
  have := quo_iff (N := u * 4294967296 + d) (y := y1 * 4294967296 + y0) (q := q) (by omega)
  rw [e2] at this
  constructor
  · intro h; apply Int.lt_of_not_ge; intro c; have := this.1 c; omega
  · intro h; apply Int.lt_of_not_ge; intro c; have := this.2 (by omega); omega
theorem quo_small {u d y : Int} (hy : 0 < y) (hd : d < 4294967296) (hu : u < y) : (u * 4294967296 + d) / y < 4294967296 := by
  apply (Int.ediv_lt_iff_lt_mul hy).2; omega
theorem quo_nn {u d y : Int} (hy : 0 < y) (hd : 0 ≤ d) (hu : 0 ≤ u) : 0 ≤ (u * 4294967296 + d) / y := Int.ediv_nonneg (by omega) (by omega)

theorem Div64_l0 (y s y1 y0 u d e : Int) (hy : y = y1 * 4294967296 + y0) (h1 : 2147483648 ≤ y1) (h1' : y1 < 4294967296) (h0 : 0 ≤ y0) (h0' : y0 < 4294967296) (hu : 0 ≤ u) (huy : u < y) (hd : 0 ≤ d) (hd' : d < 4294967296) :
    ∀ (n k : Nat) (q rh : Int), (u * 4294967296 + d) / y ≤ q → q ≤ 4294967297 → rh = u - q * y1 → 0 ≤ rh → rh < 4294967296 → 4294967296 ≤ rh + n * 2147483648 → 2 * n + 2 < k →
    ∃ k', k ≤ k' + 2 * n + 2 ∧ bits_Div64.l0 k y s y1 y0 u d e q rh = bits_Div64.j2 k' y s y1 y0 u d e ((u * 4294967296 + d) / y) := by
  subst hy
  intro n
  induction n with
  | zero => intro k q rh _ _ _ _ h2 h3; exfalso; simp at h3; omega
  | succ n ih =>
    intro k q rh hq hqu hr hr0 hrb hm hk
    have hqs := quo_small (d := d) (show 0 < y1 * 4294967296 + y0 by omega) hd' huy
    have hqn := quo_nn (show 0 < y1 * 4294967296 + y0 by omega) hd hu
    obtain ⟨k, rfl⟩ : ∃ m, k = m + 2 := ⟨k - 2, by omega⟩
    have step : ∀ (hgt : (u * 4294967296 + d) / (y1 * 4294967296 + y0) < q), ∃ k', k + 2 ≤ k' + 2 * (n + 1) + 2 ∧ bits_Div64.j1 (k + 1) (y1 * 4294967296 + y0) s y1 y0 u d e q rh true = bits_Div64.j2 k' (y1 * 4294967296 + y0) s y1 y0 u d e ((u * 4294967296 + d) / (y1 * 4294967296 + y0)) := by
      intro hgt
      obtain ⟨g1, g2, g3⟩ := guess_down h1 h0 h0' hd hq hqu hr hgt
      simp only [bits_Div64.j1, if_true]
      rw [wu_id (n := rh + y1) (by omega) (by omega), wu_id (n := q - 1) (by omega) (by omega)]
      by_cases c : rh + y1 ≥ 4294967296
      · rw [if_pos c, ← g3 c]; exact ⟨k, by omega, rfl⟩
      · rw [if_neg c]
        obtain ⟨k', hk', he⟩ := ih k (q - 1) (rh + y1) g1 (by omega) g2 (by omega) (by omega) (by omega) (by omega)
        exact ⟨k', by omega, he⟩
    simp only [bits_Div64.l0]
    by_cases c : q ≥ 4294967296
    · rw [if_pos c]; exact step (by omega)
    · rw [if_neg c]
      have p1 : 0 ≤ q * y0 := Int.mul_nonneg (by omega) h0
      have p2 : q * y0 ≤ 4294967295 * 4294967295 := Int.mul_le_mul (by omega) (by omega) h0 (by omega)
      rw [wu_id (n := q * y0) p1 (by omega), wu_id (n := 4294967296 * rh) (by omega) (by omega), wu_id (n := 4294967296 * rh + d) (by omega) (by omega)]
      have t := guess_test (d := d) h1 h0 hr
      by_cases c2 : 4294967296 * rh + d < q * y0
      · rw [decide_eq_true c2]; exact step (t.1 c2)
      · rw [decide_eq_false c2]
        have : (u * 4294967296 + d) / (y1 * 4294967296 + y0) = q := by
          have : ¬ (u * 4294967296 + d) / (y1 * 4294967296 + y0) < q := fun h => c2 (t.2 h)
          omega
        simp only [bits_Div64.j1]
        rw [if_neg (by simp), this]
        exact ⟨k, by omega, rfl⟩
theorem Div64_l1 (y s y1 y0 u d q1 : Int) (hs : 0 ≤ s) (hy : y = y1 * 4294967296 + y0) (h1 : 2147483648 ≤ y1) (h1' : y1 < 4294967296) (h0 : 0 ≤ y0) (h0' : y0 < 4294967296) (hu : 0 ≤ u) (huy : u < y) (hd : 0 ≤ d) (hd' : d < 4294967296) :
    ∀ (n k : Nat) (q rh : Int), (u * 4294967296 + d) / y ≤ q → q ≤ 4294967297 → rh = u - q * y1 → 0 ≤ rh → rh < 4294967296 → 4294967296 ≤ rh + n * 2147483648 → 2 * n + 2 < k →
    bits_Div64.l1 k y s y1 y0 d q1 rh u q = some (IntKind.u64.wrap (IntKind.u64.wrap (q1 * 4294967296) + (u * 4294967296 + d) / y), shr .u64 (IntKind.u64.wrap (IntKind.u64.wrap (IntKind.u64.wrap (u * 4294967296) + d) - IntKind.u64.wrap ((u * 4294967296 + d) / y * y))) s) := by
  subst hy
  intro n
  induction n with
  | zero => intro k q rh _ _ _ _ h2 h3; exfalso; simp at h3; omega
  | succ n ih =>
    intro k q rh hq hqu hr hr0 hrb hm hk
    have hqs := quo_small (d := d) (show 0 < y1 * 4294967296 + y0 by omega) hd' huy
    have hqn := quo_nn (show 0 < y1 * 4294967296 + y0 by omega) hd hu
    obtain ⟨k, rfl⟩ : ∃ m, k = m + 2 := ⟨k - 2, by omega⟩
    have step : ∀ (hgt : (u * 4294967296 + d) / (y1 * 4294967296 + y0) < q), bits_Div64.j4 (k + 1) (y1 * 4294967296 + y0) s y1 y0 d q1 rh u q true = some (IntKind.u64.wrap (IntKind.u64.wrap (q1 * 4294967296) + (u * 4294967296 + d) / (y1 * 4294967296 + y0)), shr .u64 (IntKind.u64.wrap (IntKind.u64.wrap (IntKind.u64.wrap (u * 4294967296) + d) - IntKind.u64.wrap ((u * 4294967296 + d) / (y1 * 4294967296 + y0) * (y1 * 4294967296 + y0)))) s) := by
      intro hgt
      obtain ⟨g1, g2, g3⟩ := guess_down h1 h0 h0' hd hq hqu hr hgt
      simp only [bits_Div64.j4, if_true]
      rw [wu_id (n := rh + y1) (by omega) (by omega), wu_id (n := q - 1) (by omega) (by omega)]
      by_cases c : rh + y1 ≥ 4294967296
      · rw [if_pos c, ← g3 c, if_pos hs]
      · rw [if_neg c]
        exact ih k (q - 1) (rh + y1) g1 (by omega) g2 (by omega) (by omega) (by omega) (by omega)
    simp only [bits_Div64.l1]
    by_cases c : q ≥ 4294967296
    · rw [if_pos c]; exact step (by omega)
    · rw [if_neg c]
      have p1 : 0 ≤ q * y0 := Int.mul_nonneg (by omega) h0
      have p2 : q * y0 ≤ 4294967295 * 4294967295 := Int.mul_le_mul (by omega) (by omega) h0 (by omega)
      rw [wu_id (n := q * y0) p1 (by omega), wu_id (n := 4294967296 * rh) (by omega) (by omega), wu_id (n := 4294967296 * rh + d) (by omega) (by omega)]
      have t := guess_test (d := d) h1 h0 hr
      by_cases c2 : 4294967296 * rh + d < q * y0
      · rw [decide_eq_true c2]; exact step (t.1 c2)
      · rw [decide_eq_false c2]
        have : (u * 4294967296 + d) / (y1 * 4294967296 + y0) = q := by
          have : ¬ (u * 4294967296 + d) / (y1 * 4294967296 + y0) < q := fun h => c2 (t.2 h)
          omega
        simp only [bits_Div64.j4]
        rw [if_neg (by simp), this, if_pos hs]
/-- The rest of a half, as the code reckons it, modulo 2^64. -/
theorem half_rest {u d y : Int} (hy : 0 < y) (hy' : y < 18446744073709551616) :
    IntKind.u64.wrap (IntKind.u64.wrap (IntKind.u64.wrap (u * 4294967296) + d) - IntKind.u64.wrap ((u * 4294967296 + d) / y * y)) = (u * 4294967296 + d) % y := by
  have e := Int.emod_add_mul_ediv (u * 4294967296 + d) y
  have m1 := Int.emod_nonneg (u * 4294967296 + d) (show y ≠ 0 by omega)
  have m2 := Int.emod_lt_of_pos (u * 4294967296 + d) hy
  rw [Int.mul_comm y] at e
  generalize (u * 4294967296 + d) / y * y = p at *
  generalize (u * 4294967296 + d) % y = r at *
  simp only [wu]
  omega
theorem Div64_j2 (y s y1 y0 u d e q1 : Int) (k : Nat) (hs : 0 ≤ s) (hy : y = y1 * 4294967296 + y0) (h1 : 2147483648 ≤ y1) (h1' : y1 < 4294967296) (h0 : 0 ≤ y0) (h0' : y0 < 4294967296) (hu : 0 ≤ u) (huy : u < y) (hd : 0 ≤ d) (hd' : d < 4294967296) (he : 0 ≤ e) (he' : e < 4294967296)
    (hq : q1 = (u * 4294967296 + d) / y) (hk : 10 ≤ k) :
    bits_Div64.j2 k y s y1 y0 u d e q1 = some (q1 * 4294967296 + ((u * 4294967296 + d) % y * 4294967296 + e) / y, shr .u64 (((u * 4294967296 + d) % y * 4294967296 + e) % y) s) := by
  obtain ⟨k, rfl⟩ : ∃ m, k = m + 1 := ⟨k - 1, by omega⟩
  have hy0 : 0 < y := by omega
  have hyb : y < 18446744073709551616 := by omega
  have r0 := Int.emod_nonneg (u * 4294967296 + d) (show y ≠ 0 by omega)
  have r1 := Int.emod_lt_of_pos (u * 4294967296 + d) hy0
  have q0 := quo_small hy0 hd' huy
  have q0' := quo_nn hy0 hd hu
  simp only [bits_Div64.j2]
  rw [if_neg (by omega)]
  have hr : IntKind.u64.wrap (IntKind.u64.wrap (IntKind.u64.wrap (u * 4294967296) + d) - IntKind.u64.wrap (q1 * y)) = (u * 4294967296 + d) % y := by rw [hq]; exact half_rest hy0 hyb
  rw [hr]
  generalize (u * 4294967296 + d) % y = v at *
  have b := half_up h1 h1' h0 h0' r0 (by omega)
  rw [tdiv_nn r0, wu_id b.1 (by omega)]
  have pv : v / y1 * y1 ≤ v := by have := b.2.2.1; omega
  have pn : 0 ≤ v / y1 * y1 := Int.mul_nonneg b.1 (by omega)
  rw [wu_id (n := v / y1 * y1) pn (by omega), wu_id (n := v - v / y1 * y1) b.2.2.1 (by omega)]
  have hge : (v * 4294967296 + e) / y ≤ v / y1 := by
    have h2 : v * 4294967296 + e < (v / y1 + 1) * y := by
      have h3 : (v / y1 + 1) * y1 ≥ v + 1 := by
        rw [Int.add_mul]
        have := b.2.2.2
        omega
      have h4 : (v / y1 + 1) * y = (v / y1 + 1) * y1 * 4294967296 + (v / y1 + 1) * y0 := by rw [hy, Int.mul_add, Int.mul_assoc]
      have h5 : 0 ≤ (v / y1 + 1) * y0 := Int.mul_nonneg (by omega) h0
      omega
    have := (Int.ediv_lt_iff_lt_mul hy0).2 h2
    omega
  rw [Div64_l1 y s y1 y0 v e q1 hs hy h1 h1' h0 h0' r0 (by omega) he he' 2 k (v / y1) (v - v / y1 * y1) hge b.2.1 rfl b.2.2.1 (by omega) (by omega) (by omega)]
  have q2 := quo_small hy0 he' r1
  have q2' := quo_nn hy0 he r0
  rw [half_rest hy0 hyb, wu_id (n := q1 * 4294967296) (by omega) (by omega), wu_id (n := q1 * 4294967296 + _) (by omega) (by omega)]
theorem two_pow_split (L : Nat) (h : L ≤ 64) : (2 : Int) ^ (64 - L) * 2 ^ L = 18446744073709551616 := by
  rw [← Int.pow_add, show 64 - L + L = 64 by omega]; rfl
/-- The shift of a number that is not 0. -/
theorem lead (y : Int) (h : 0 < y) (h' : y < 18446744073709551616) : ∃ L : Nat, 1 ≤ L ∧ L ≤ 64 ∧ Lib.bitLen y.toNat = L ∧ y < 2 ^ L ∧ 9223372036854775808 ≤ y * 2 ^ (64 - L) ∧ y * 2 ^ (64 - L) < 18446744073709551616 := by
  have hx : y.toNat < 2 ^ 64 := by omega
  obtain ⟨a, b, c⟩ := Lib.bitLenAux_bounds 64 y.toNat hx (by omega)
  have hle : Lib.bitLenAux 64 y.toNat ≤ 64 := by
    apply Nat.le_of_not_lt; intro hlt
    have := Nat.pow_le_pow_right (n := 2) (by decide) (show 64 ≤ Lib.bitLenAux 64 y.toNat - 1 by omega)
    omega
  refine ⟨Lib.bitLenAux 64 y.toNat, a, hle, rfl, ?_, ?_, ?_⟩
  · have : ((y.toNat : Nat) : Int) < ((2 ^ Lib.bitLenAux 64 y.toNat : Nat) : Int) := by exact_mod_cast c
    rw [Int.natCast_pow] at this
    have e : ((y.toNat : Nat) : Int) = y := by omega
    rw [e] at this; exact this
  · have h1 : ((2 ^ (Lib.bitLenAux 64 y.toNat - 1) : Nat) : Int) ≤ ((y.toNat : Nat) : Int) := by exact_mod_cast b
    rw [Int.natCast_pow] at h1
    have e : ((y.toNat : Nat) : Int) = y := by omega
    rw [e] at h1
    have h2 : (0 : Int) ≤ 2 ^ (64 - Lib.bitLenAux 64 y.toNat) := Int.le_of_lt (Int.pow_pos (by decide))
    have h3 := Int.mul_le_mul_of_nonneg_right h1 h2
    rw [show ((2 : Nat) : Int) = 2 from rfl, ← Int.pow_add, show Lib.bitLenAux 64 y.toNat - 1 + (64 - Lib.bitLenAux 64 y.toNat) = 63 by omega] at h3
    exact h3
  · have h1 : ((y.toNat : Nat) : Int) < ((2 ^ Lib.bitLenAux 64 y.toNat : Nat) : Int) := by exact_mod_cast c
    rw [Int.natCast_pow] at h1
    have e : ((y.toNat : Nat) : Int) = y := by omega
    rw [e] at h1
    have h2 : (0 : Int) < 2 ^ (64 - Lib.bitLenAux 64 y.toNat) := Int.pow_pos (by decide)
    have h3 := Int.mul_lt_mul_of_pos_right h1 h2
    rw [show ((2 : Nat) : Int) = 2 from rfl, Int.mul_comm (2 ^ _), two_pow_split _ hle] at h3
    exact h3
theorem mod_scaled (x y : Int) {p : Int} (h : 0 < p) : x * p % (y * p) = x % y * p := by
  rw [Int.mul_comm x, Int.mul_comm y, Int.mul_emod_mul_of_pos _ _ h, Int.mul_comm]
theorem two_halves {U R Y d f q1 v q0 r : Int} (hR : R = d * 4294967296 + f) (ea : v + Y * q1 = U * 4294967296 + d) (eb : r + Y * q0 = v * 4294967296 + f) :
    U * 18446744073709551616 + R = (q1 * 4294967296 + q0) * Y + r := by
  have h1 : (q1 * 4294967296 + q0) * Y = Y * q1 * 4294967296 + Y * q0 := by
    rw [Int.add_mul, Int.mul_comm q0, Int.mul_right_comm, Int.mul_comm q1]
  rw [h1, hR]
  generalize Y * q1 = A at *
  generalize Y * q0 = B at *
  omega
theorem quo_two {U R Y d f q1 v q0 r : Int} (hR : R = d * 4294967296 + f) (ea : v + Y * q1 = U * 4294967296 + d) (eb : r + Y * q0 = v * 4294967296 + f) (h0 : 0 ≤ r) (h1 : r < Y) :
    (U * 18446744073709551616 + R) / Y = q1 * 4294967296 + q0 := by
  rw [two_halves hR ea eb]
  apply quo_eq (by omega)
  · omega
  · rw [Int.add_mul (q1 * 4294967296 + q0) 1]; omega
theorem rest_two {U R Y d f q1 v q0 r : Int} (hR : R = d * 4294967296 + f) (ea : v + Y * q1 = U * 4294967296 + d) (eb : r + Y * q0 = v * 4294967296 + f) (h0 : 0 ≤ r) (h1 : r < Y) :
    r = (U * 18446744073709551616 + R) % Y := by
  rw [two_halves hR ea eb, Int.add_comm, Int.add_mul_emod_self_right, Int.emod_eq_of_lt h0 h1]
theorem Div64_is (hi lo y : Int) (k : Nat) (h0 : 0 ≤ hi) (h1 : hi < y) (hy : y < 18446744073709551616) (hl : 0 ≤ lo) (hl' : lo < 18446744073709551616) (hk : 30 ≤ k) :
    bits_Div64.f k hi lo y = some ((hi * 18446744073709551616 + lo) / y, (hi * 18446744073709551616 + lo) % y) := by
  unfold bits_Div64.f
  rw [if_neg (by omega), if_neg (by omega)]
  by_cases c : hi = 0
  · subst c
    rw [if_pos rfl, tdiv_nn hl, tmod_nn hl]
    have : 0 ≤ lo / y := Int.ediv_nonneg hl (by omega)
    have : lo / y ≤ lo := Int.ediv_le_self _ hl
    rw [wu_id (by omega) (by omega)]
    simp
  · rw [if_neg c]
    obtain ⟨L, L1, L2, hL, hyL, n1, n2⟩ := lead y (by omega) hy
    unfold bits_LeadingZeros64.f
    rw [if_pos (by omega), hL]
    simp only [obind]
    have hs : IntKind.u64.wrap (64 - (L : Int)) = 64 - L := wu_id (by omega) (by omega)
    rw [hs, show (64 - (64 - (L : Int))) = L by omega, wu_id (n := (L : Int)) (by omega) (by omega), if_pos (by omega), if_pos (by omega)]
    have e1 : ∀ x : Int, shl .u64 x (64 - (L : Int)) = IntKind.u64.wrap (x * 2 ^ (64 - L)) := by
      intro x; unfold shl
      rw [show min (64 - (L : Int)).toNat IntKind.u64.bits = 64 - L by show min _ 64 = _; omega]
    have e2 : shr .u64 lo (L : Int) = lo / 2 ^ L := by
      unfold shr
      rw [show min ((L : Int)).toNat IntKind.u64.bits = L by show min _ 64 = _; omega]
    have e3 : ∀ x : Int, shr .u64 x (64 - (L : Int)) = x / 2 ^ (64 - L) := by
      intro x; unfold shr
      rw [show min (64 - (L : Int)).toNat IntKind.u64.bits = 64 - L by show min _ 64 = _; omega]
    have hsplit := two_pow_split L L2
    have pP : (0 : Int) < 2 ^ (64 - L) := Int.pow_pos (by decide)
    have pQ : (0 : Int) < 2 ^ L := Int.pow_pos (by decide)
    have hPle : (2 : Int) ^ (64 - L) < 18446744073709551616 := by
      have : (2 : Int) ^ (64 - L) * 2 ≤ 2 ^ (64 - L) * 2 ^ L := Int.mul_le_mul_of_nonneg_left (by
        have := Nat.pow_le_pow_right (n := 2) (by decide) L1
        have h : ((2 ^ 1 : Nat) : Int) ≤ ((2 ^ L : Nat) : Int) := by exact_mod_cast this
        rw [Int.natCast_pow] at h
        exact h) (Int.le_of_lt pP)
      omega
    -- the high word
    have hiP : 0 ≤ hi * 2 ^ (64 - L) := Int.mul_nonneg h0 (Int.le_of_lt pP)
    have hiP' : hi * 2 ^ (64 - L) + 2 ^ (64 - L) ≤ y * 2 ^ (64 - L) := by
      have := Int.mul_le_mul_of_nonneg_right (show hi + 1 ≤ y by omega) (Int.le_of_lt pP)
      rw [Int.add_mul] at this; omega
    have lq0 : 0 ≤ lo / 2 ^ L := Int.ediv_nonneg hl (Int.le_of_lt pQ)
    have lq1 : lo / 2 ^ L < 2 ^ (64 - L) := by
      apply (Int.ediv_lt_iff_lt_mul pQ).2; rw [hsplit]; omega
    have lm := Int.emod_add_mul_ediv lo (2 ^ L)
    have lm0 := Int.emod_nonneg lo (show (2 : Int) ^ L ≠ 0 by omega)
    have lm1 := Int.emod_lt_of_pos lo pQ
    have hor : Go.bits .or .u64 (hi * 2 ^ (64 - L)) (lo / 2 ^ L) = hi * 2 ^ (64 - L) + lo / 2 ^ L :=
      bits_join .u64 64 (by decide) wraps_u64 (64 - L) _ _ hiP (Int.mul_emod_left _ _) (by
        have : (2 : Int) ^ 64 = 18446744073709551616 := rfl
        omega) lq0 lq1 (by
        have : (2 : Int) ^ 64 = 18446744073709551616 := rfl
        omega)
    -- the low word
    have hlo : lo * 2 ^ (64 - L) = lo % 2 ^ L * 2 ^ (64 - L) + lo / 2 ^ L * 18446744073709551616 := by
      have h3 : (lo % 2 ^ L + 2 ^ L * (lo / 2 ^ L)) * 2 ^ (64 - L) = lo % 2 ^ L * 2 ^ (64 - L) + lo / 2 ^ L * (2 ^ (64 - L) * 2 ^ L) := by
        rw [Int.add_mul]
        congr 1
        rw [Int.mul_comm (2 ^ L), Int.mul_assoc, Int.mul_comm (2 ^ L)]
      rw [lm, hsplit] at h3; exact h3
    have rP0 : 0 ≤ lo % 2 ^ L * 2 ^ (64 - L) := Int.mul_nonneg lm0 (Int.le_of_lt pP)
    have rP1 : lo % 2 ^ L * 2 ^ (64 - L) < 18446744073709551616 := by
      have := Int.mul_lt_mul_of_pos_right lm1 pP
      rw [Int.mul_comm (2 ^ L), hsplit] at this; exact this
    have el : IntKind.u64.wrap (lo * 2 ^ (64 - L)) = lo % 2 ^ L * 2 ^ (64 - L) := by
      rw [wu, hlo]; omega
    rw [e1 y, e1 hi, e1 lo, e2, wu_id (n := y * 2 ^ (64 - L)) (by omega) n2, wu_id (n := hi * 2 ^ (64 - L)) hiP (by omega), hor, el]
    -- all in names
    have total : (hi * 18446744073709551616 + lo) * 2 ^ (64 - L) = (hi * 2 ^ (64 - L) + lo / 2 ^ L) * 18446744073709551616 + lo % 2 ^ L * 2 ^ (64 - L) := by
      rw [Int.add_mul, hlo, Int.add_mul, Int.mul_right_comm]; omega
    have hu : hi * 2 ^ (64 - L) + lo / 2 ^ L < y * 2 ^ (64 - L) := by omega
    have hu0 : 0 ≤ hi * 2 ^ (64 - L) + lo / 2 ^ L := by omega
    have fin : ∀ v q : Int, v = (hi * 18446744073709551616 + lo) * 2 ^ (64 - L) % (y * 2 ^ (64 - L)) → q = (hi * 18446744073709551616 + lo) * 2 ^ (64 - L) / (y * 2 ^ (64 - L)) →
        some (q, shr .u64 v (64 - (L : Int))) = some ((hi * 18446744073709551616 + lo) / y, (hi * 18446744073709551616 + lo) % y) := by
      intro v q hv hq
      rw [e3, hv, hq, Int.mul_ediv_mul_of_pos_left _ _ pP, mod_scaled _ _ pP, Int.mul_ediv_cancel _ (Int.ne_of_gt pP)]
    rw [total] at fin
    generalize hi * 2 ^ (64 - L) + lo / 2 ^ L = U at *
    generalize lo % 2 ^ L * 2 ^ (64 - L) = R at *
    generalize y * 2 ^ (64 - L) = Y at *
    rw [and_mask (by omega) n2, and_mask rP0 rP1, if_neg (by omega)]
    have hyy : Y = Y / 4294967296 * 4294967296 + Y % 4294967296 := by omega
    have b := half_up (u := U) (y1 := Y / 4294967296) (y0 := Y % 4294967296) (by omega) (by omega) (by omega) (by omega) hu0 (by omega)
    have y1a : 2147483648 ≤ Y / 4294967296 := by omega
    have y1b : Y / 4294967296 < 4294967296 := by omega
    have y0a : 0 ≤ Y % 4294967296 := by omega
    have y0b : Y % 4294967296 < 4294967296 := by omega
    have d0 : 0 ≤ R / 4294967296 := by omega
    have d1 : R / 4294967296 < 4294967296 := by omega
    have f0 : 0 ≤ R % 4294967296 := by omega
    have f1 : R % 4294967296 < 4294967296 := by omega
    have hR : R = R / 4294967296 * 4294967296 + R % 4294967296 := by omega
    generalize Y / 4294967296 = y1 at *
    generalize Y % 4294967296 = y0 at *
    generalize R / 4294967296 = d at *
    generalize R % 4294967296 = f at *
    have Ypos : 0 < Y := by omega
    rw [tdiv_nn hu0, wu_id b.1 (by omega)]
    have pv : U / y1 * y1 ≤ U := by have := b.2.2.1; omega
    have pn : 0 ≤ U / y1 * y1 := Int.mul_nonneg b.1 (by omega)
    rw [wu_id (n := U / y1 * y1) pn (by omega), wu_id (n := U - U / y1 * y1) b.2.2.1 (by omega)]
    have hge : (U * 4294967296 + d) / Y ≤ U / y1 := by
      have h2 : U * 4294967296 + d < (U / y1 + 1) * Y := by
        have h3 : (U / y1 + 1) * y1 ≥ U + 1 := by
          rw [Int.add_mul]
          have := b.2.2.2
          omega
        have h4 : (U / y1 + 1) * Y = (U / y1 + 1) * y1 * 4294967296 + (U / y1 + 1) * y0 := by rw [hyy, Int.mul_add, Int.mul_assoc]
        have h5 : 0 ≤ (U / y1 + 1) * y0 := Int.mul_nonneg (by omega) y0a
        omega
      have := (Int.ediv_lt_iff_lt_mul Ypos).2 h2
      omega
    obtain ⟨k', hk', he⟩ := Div64_l0 Y (64 - L) y1 y0 U d f hyy y1a y1b y0a y0b hu0 hu d0 d1 2 k (U / y1) (U - U / y1 * y1) hge b.2.1 rfl b.2.2.1 (by omega) (by omega) (by omega)
    rw [he, Div64_j2 Y (64 - L) y1 y0 U d f _ k' (by omega) hyy y1a y1b y0a y0b hu0 hu d0 d1 f0 f1 rfl (by omega)]
    have r0 := Int.emod_nonneg (U * 4294967296 + d) (show Y ≠ 0 by omega)
    have r1 := Int.emod_lt_of_pos (U * 4294967296 + d) Ypos
    have ea := Int.emod_add_mul_ediv (U * 4294967296 + d) Y
    have s0 := Int.emod_nonneg ((U * 4294967296 + d) % Y * 4294967296 + f) (show Y ≠ 0 by omega)
    have s1 := Int.emod_lt_of_pos ((U * 4294967296 + d) % Y * 4294967296 + f) Ypos
    have eb := Int.emod_add_mul_ediv ((U * 4294967296 + d) % Y * 4294967296 + f) Y
    rw [← quo_two hR ea eb s0 s1]
    exact fin _ _ (rest_two hR ea eb s0 s1) rfl
end Go.Proofs.Ytlhcohipnieidaa.Pure
