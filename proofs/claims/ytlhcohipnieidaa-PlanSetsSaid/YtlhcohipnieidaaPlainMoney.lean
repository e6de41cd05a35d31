/- A part of a proof. -/
import Derived.Laws.BitsLemmas
import Derived.Laws.Bits64
import Derived.Lib.ItoaNum
import Derived.RowKit
namespace Go.Proofs.Ytlhcohipnieidaa.PlainM
open Go Go.RowKit
theorem w64 {e : Int} (h : -9223372036854775808 ≤ e) (h' : e ≤ 9223372036854775807) : wrap64 e = e := by unfold wrap64; omega
theorem obind {α β : Type} (a : α) (f : α → Option β) : (some a).bind f = f a := (Option.bind_some a f).trans (Eq.refl (f a))
theorem tdiv_nn {x n : Int} (h : 0 ≤ x) : Int.tdiv x n = x / n := Int.tdiv_eq_ediv_of_nonneg h
theorem tmod_nn {x n : Int} (h : 0 ≤ x) : Int.tmod x n = x % n := Int.tmod_eq_emod_of_nonneg h
theorem wu (n : Int) : IntKind.u64.wrap n = n % 18446744073709551616 := IntKind.wrap_u64 n
theorem wu_id {n : Int} (h : 0 ≤ n) (h' : n < 18446744073709551616) : IntKind.u64.wrap n = n := by rw [wu]; omega
theorem wraps_u64 (n : Int) (h₀ : 0 ≤ n) (h₁ : n < 2 ^ 64) : IntKind.u64.wrap n = n := wu_id h₀ (by simpa using h₁)
theorem and_mask {x : Int} (h : 0 ≤ x) (h' : x < 18446744073709551616) : Go.bits .and .u64 x 4294967295 = x % 4294967296 :=
  bits_mask .u64 64 (by decide) wraps_u64 32 (by decide) x h (by simpa using h')
theorem and_one {x : Int} (h : 0 ≤ x) (h' : x < 18446744073709551616) : Go.bits .and .u64 x 1 = x % 2 :=
  bits_mask .u64 64 (by decide) wraps_u64 1 (by decide) x h (by simpa using h')
theorem mul_halves (a1 a0 b1 b0 : Int) (ha1 : 0 ≤ a1) (ha1' : a1 < 4294967296) (ha0 : 0 ≤ a0) (ha0' : a0 < 4294967296) (hb1 : 0 ≤ b1) (hb1' : b1 < 4294967296) (hb0 : 0 ≤ b0) (hb0' : b0 < 4294967296) :
    ∃ x11 x10 x01 x00 : Int, x11 = a1 * b1 ∧ x10 = a1 * b0 ∧ x01 = a0 * b1 ∧ x00 = a0 * b0 ∧ 0 ≤ x11 ∧ x11 ≤ 18446744065119617025 ∧ 0 ≤ x10 ∧ x10 ≤ 18446744065119617025 ∧ 0 ≤ x01 ∧ x01 ≤ 18446744065119617025 ∧ 0 ≤ x00 ∧ x00 ≤ 18446744065119617025 ∧
      (a1 * 4294967296 + a0) * (b1 * 4294967296 + b0) = x11 * 18446744073709551616 + (x10 + x01) * 4294967296 + x00 := by
  have bd : ∀ x y : Int, 0 ≤ x → x < 4294967296 → 0 ≤ y → y < 4294967296 → 0 ≤ x * y ∧ x * y ≤ 18446744065119617025 := fun x y h1 h2 h3 h4 =>
    ⟨Int.mul_nonneg h1 h3, by
      have : x * y ≤ 4294967295 * 4294967295 := Int.mul_le_mul (by omega) (by omega) h3 (by omega)
      omega⟩
  refine ⟨_, _, _, _, rfl, rfl, rfl, rfl, (bd _ _ ha1 ha1' hb1 hb1').1, (bd _ _ ha1 ha1' hb1 hb1').2, (bd _ _ ha1 ha1' hb0 hb0').1, (bd _ _ ha1 ha1' hb0 hb0').2, (bd _ _ ha0 ha0' hb1 hb1').1, (bd _ _ ha0 ha0' hb1 hb1').2, (bd _ _ ha0 ha0' hb0 hb0').1, (bd _ _ ha0 ha0' hb0 hb0').2, ?_⟩
  rw [Int.add_mul, Int.mul_add, Int.mul_add]
  have e1 : a1 * 4294967296 * (b1 * 4294967296) = a1 * b1 * 18446744073709551616 := by
    rw [Int.mul_assoc, Int.mul_left_comm 4294967296, ← Int.mul_assoc]; rfl
  have e2 : a1 * 4294967296 * b0 = a1 * b0 * 4294967296 := by rw [Int.mul_assoc, Int.mul_comm 4294967296, ← Int.mul_assoc]
  have e3 : a0 * (b1 * 4294967296) = a0 * b1 * 4294967296 := by rw [← Int.mul_assoc]
  rw [e1, e2, e3]; omega
theorem half_up {u y1 y0 : Int} (h1 : 2147483648 ≤ y1) (h1' : y1 < 4294967296) (h0 : 0 ≤ y0) (h0' : y0 < 4294967296) (hu : 0 ≤ u) (huy : u < y1 * 4294967296 + y0) :
    0 ≤ u / y1 ∧ u / y1 ≤ 4294967297 ∧ 0 ≤ u - u / y1 * y1 ∧ u - u / y1 * y1 < y1 := by
  have e := Int.emod_add_mul_ediv u y1
  have m1 := Int.emod_nonneg u (show y1 ≠ 0 by omega)
  have m2 := Int.emod_lt_of_pos u (show 0 < y1 by omega)
  rw [Int.mul_comm] at e
  refine ⟨Int.ediv_nonneg hu (by omega), ?_, by omega, by omega⟩
  apply Int.le_of_lt_add_one
  apply (Int.ediv_lt_iff_lt_mul (by omega)).2
  show u < (4294967297 + 1) * y1
  omega
theorem quo_iff {N y q : Int} (hy : 0 < y) : q ≤ N / y ↔ q * y ≤ N := Int.le_ediv_iff_mul_le hy
theorem quo_eq {N y q : Int} (hy : 0 < y) (h1 : q * y ≤ N) (h2 : N < (q + 1) * y) : N / y = q := by
  have a := (quo_iff hy).2 h1
  have b := (Int.ediv_lt_iff_lt_mul hy (a := N) (b := q + 1)).2 h2
  omega
end Go.Proofs.Ytlhcohipnieidaa.PlainM
