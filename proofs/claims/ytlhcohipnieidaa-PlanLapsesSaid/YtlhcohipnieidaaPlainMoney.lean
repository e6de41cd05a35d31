/- Plain numbers of 128 bits: how a quotient is found by halves, and bit by bit; no program in sight. -/
import Derived.Laws.BitsLemmas
import Derived.Laws.Bits64
import Derived.Lib.ItoaNum
import Derived.RowKit
namespace Go.Proofs.Ytlhcohipnieidaa.PlainM
open Go Go.RowKit

theorem w64 {e : Int} (h : -9223372036854775808 ≤ e) (h' : e ≤ 9223372036854775807) : wrap64 e = e := by unfold wrap64; omega
theorem obind {α β : Type} (a : α) (f : α → Option β) : (some a).bind f = f a := (Option.bind_some a f).trans (Eq.refl (f a))
theorem wfu8 {n : Int} (h : (Lit.int .u8 n).wf = true) : 0 ≤ n ∧ n ≤ 255 := by
  simp only [Lit.wf, Bool.and_eq_true, decide_eq_true_eq] at h; exact h
theorem tdiv_nn {x n : Int} (h : 0 ≤ x) : Int.tdiv x n = x / n := Int.tdiv_eq_ediv_of_nonneg h
theorem tmod_nn {x n : Int} (h : 0 ≤ x) : Int.tmod x n = x % n := Int.tmod_eq_emod_of_nonneg h
theorem wu (n : Int) : IntKind.u64.wrap n = n % 18446744073709551616 := IntKind.wrap_u64 n
theorem wu_id {n : Int} (h : 0 ≤ n) (h' : n < 18446744073709551616) : IntKind.u64.wrap n = n := by rw [wu]; omega
theorem wraps_u64 (n : Int) (h₀ : 0 ≤ n) (h₁ : n < 2 ^ 64) : IntKind.u64.wrap n = n := wu_id h₀ (by simpa using h₁)
theorem and_mask {x : Int} (h : 0 ≤ x) (h' : x < 18446744073709551616) : Go.bits .and .u64 x 4294967295 = x % 4294967296 :=
  bits_mask .u64 64 (by decide) wraps_u64 32 (by decide) x h (by simpa using h')
theorem and_one {x : Int} (h : 0 ≤ x) (h' : x < 18446744073709551616) : Go.bits .and .u64 x 1 = x % 2 :=
  bits_mask .u64 64 (by decide) wraps_u64 1 (by decide) x h (by simpa using h')

/-- Long division's step: what the quotient of a half may be. -/
theorem half_up {u y1 y0 : Int} (h1 : 2147483648 ≤ y1) (h1' : y1 < 4294967296) (h0 : 0 ≤ y0) (h0' : y0 < 4294967296) (hu : 0 ≤ u) (huy : u < y1 * 4294967296 + y0) :
    0 ≤ u / y1 ∧ u / y1 ≤ 4294967297 ∧ 0 ≤ u - u / y1 * y1 ∧ u - u / y1 * y1 < y1 := by
  have e := Int.emod_add_mul_ediv u y1
  have m1 := Int.emod_nonneg u (show y1 ≠ 0 by omega)
  have m2 := Int.emod_lt_of_pos u (show 0 < y1 by omega)
  rw [Int.mul_comm] at e
  refine ⟨Int.ediv_nonneg hu (by omega), ?_, by omega, by omega⟩
  apply Int.le_of_lt_add_one
  apply (Int.ediv_lt_iff_lt_mul (by omega)).2
  show u < (4294967297 + 1) * y1
  omega
theorem quo_iff {N y q : Int} (hy : 0 < y) : q ≤ N / y ↔ q * y ≤ N := Int.le_ediv_iff_mul_le hy
theorem quo_eq {N y q : Int} (hy : 0 < y) (h1 : q * y ≤ N) (h2 : N < (q + 1) * y) : N / y = q := by
  have a := (quo_iff hy).2 h1
  have b := (Int.ediv_lt_iff_lt_mul hy (a := N) (b := q + 1)).2 h2
  omega
end Go.Proofs.Ytlhcohipnieidaa.PlainM
