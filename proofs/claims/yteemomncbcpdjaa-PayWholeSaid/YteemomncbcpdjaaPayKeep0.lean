/- What the laws of payments look at: rows compared, a wake. -/
import Derived.Test.YteemomncbcpdjaaPx9
import Derived.Test.YteemomncbcpdjaaPx13
import Derived.Test.YteemomncbcpdjaaPx14
import Derived.Test.YteemomncbcpdjaaPx15
import Derived.Test.YteemomncbcpdjaaPx16
import Derived.Test.YteemomncbcpdjaaPayIs
namespace Go.Proofs.Yteemomncbcpdjaa.Pure
set_option linter.unusedVariables false
set_option linter.unusedSimpArgs false
open Go.RowKit Go.Proofs.Yteemomncbcpdjaa.P Go.Proofs.YteemomncbcpdjaaW.PrintWords Go.Proofs.YteemomncbcpdjaaW.PrintLast Go.Proofs.YteemomncbcpdjaaW.PrintMore Go.Proofs.Yteemomncbcpdjaa.PlainM Go.Proofs.Yteemomncbcpdjaa.Plain
theorem ints_l0 (A : List Int) (hA : A.length ≤ 1000) : ∀ (m j k : Nat), j + m = A.length → annuitykeep_Ints.l0 (m + 1 + k) A A (j : Int) = some true := by
  intro m
  induction m with
  | zero => intro j k hj; rw [show 0 + 1 + k = k + 1 by omega]; simp only [annuitykeep_Ints.l0]; rw [if_neg (by omega)]
  | succ m ih =>
    intro j k hj
    rw [show m + 1 + 1 + k = (m + 1 + k) + 1 by omega]
    simp only [annuitykeep_Ints.l0]
    rw [if_pos (by omega), if_pos (by omega), if_pos (by omega), if_pos trivial, w64 (e := (j : Int) + 1) (by omega) (by omega), show ((j : Int) + 1) = ((j + 1 : Nat) : Int) by omega, ih (j + 1) k (by omega)]
theorem ints_eq (A : List Int) (hA : A.length ≤ 1000) (k : Nat) (hk : 1100 ≤ k) : annuitykeep_Ints.f k A A = some true := by
  unfold annuitykeep_Ints.f
  rw [if_pos rfl]
  obtain ⟨q, rfl⟩ : ∃ q, k = A.length + 1 + q := ⟨k - (A.length + 1), by omega⟩
  exact ints_l0 A hA A.length 0 q (by omega)
theorem loan_eq (x : S43) : annuitykeep_Loan.f x.f0 x.f1 x.f2 x.f3 x.f4 x.f5 x.f6 x.f7 x.f8 x.f9 x.f10 x.f11 x.f12 x.f0 x.f1 x.f2 x.f3 x.f4 x.f5 x.f6 x.f7 x.f8 x.f9 x.f10 x.f11 x.f12 = some true := by
  unfold annuitykeep_Loan.f
  simp
theorem loans_l0 (A : List S43) (hA : A.length ≤ 1000) : ∀ (m j k : Nat), j + m = A.length → annuitykeep_Loans.l0 (m + 1 + k) A A (j : Int) = some true := by
  intro m
  induction m with
  | zero => intro j k hj; rw [show 0 + 1 + k = k + 1 by omega]; simp only [annuitykeep_Loans.l0]; rw [if_neg (by omega)]
  | succ m ih =>
    intro j k hj
    rw [show m + 1 + 1 + k = (m + 1 + k) + 1 by omega]
    simp only [annuitykeep_Loans.l0]
    rw [if_pos (by omega), if_pos (by omega), if_pos (by omega), loan_eq]
    simp only [obind]
    rw [if_pos trivial, w64 (e := (j : Int) + 1) (by omega) (by omega), show ((j : Int) + 1) = ((j + 1 : Nat) : Int) by omega, ih (j + 1) k (by omega)]
theorem loans_eq (A : List S43) (hA : A.length ≤ 1000) (k : Nat) (hk : 1100 ≤ k) : annuitykeep_Loans.f k A A = some true := by
  unfold annuitykeep_Loans.f
  rw [if_pos rfl]
  obtain ⟨q, rfl⟩ : ∃ q, k = A.length + 1 + q := ⟨k - (A.length + 1), by omega⟩
  exact loans_l0 A hA A.length 0 q (by omega)
theorem copy_is (l : List S43) (hl : l.length ≤ 1000) : annuitykeep_CopyLoans.f l = some l := by
  unfold annuitykeep_CopyLoans.f
  simp only [obind, List.length_nil, List.nil_append]
  rw [if_pos (by omega)]
theorem order_is (l : List S43) (hl : l.length ≤ 100000) (k : Nat) : pay_Order.f k l = some (toI (plD l)) := by
  unfold pay_Order.f pay_places_dear.f; rw [if_pos hl]; rfl
theorem outL_len (l : List S43) (a : Int) : (outL l a).length = l.length := by unfold outL; rw [updS_len]
theorem wakes20 (k : Nat) (hk : 1200 ≤ k) : annuitylaw20_wakes.f k = some true := by
  have e : payR [(⟨1, 10, 0, 0, 2, 5, false, 5, 0, 0, 0, 0, 0⟩ : S43), (⟨2, 10, 3000000, 0, 0, 9, false, 5, 0, 0, 0, 0, 0⟩ : S43)] 7 = ([(⟨1, 10, 0, 0, 0, 5, false, 5, 0, 0, 0, 0, 0⟩ : S43), (⟨2, 8, 0, 0, 0, 9, false, 5, 0, 0, 0, 0, 0⟩ : S43)], 2, 3, 2, 0, 0) := by kernel_rfl
  have d : toI (plD [(⟨1, 10, 0, 0, 2, 5, false, 5, 0, 0, 0, 0, 0⟩ : S43), (⟨2, 10, 3000000, 0, 0, 9, false, 5, 0, 0, 0, 0, 0⟩ : S43)]) = [1, 0] := by kernel_rfl
  unfold annuitylaw20_wakes.f
  simp only [obind]
  rw [pay_All_is _ _ (by decide) k (by omega), e]
  simp only [obind]
  rw [if_pos trivial, if_pos (by decide), if_pos trivial, if_pos trivial, if_pos trivial, if_pos trivial, if_pos (by decide), if_pos (by decide), order_is _ (by decide) k, d]
  simp only [obind]
  rw [ints_eq [1, 0] (by decide) k (by omega)]
  rfl
end Go.Proofs.Yteemomncbcpdjaa.Pure
