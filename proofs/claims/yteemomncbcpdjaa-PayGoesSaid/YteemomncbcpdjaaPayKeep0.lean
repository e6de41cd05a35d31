/- A part of a proof. -/
import Derived.Test.YteemomncbcpdjaaPx9
import Derived.Test.YteemomncbcpdjaaPx13
import Derived.Test.YteemomncbcpdjaaPx14
import Derived.Test.YteemomncbcpdjaaPx15
import Derived.Test.YteemomncbcpdjaaPx16
import Derived.Test.YteemomncbcpdjaaPayIs
namespace Go.Proofs.Yteemomncbcpdjaa.Pure
set_option linter.unusedVariables false
set_option linter.unusedSimpArgs false
open Go.RowKit Go.Proofs.Yteemomncbcpdjaa.P W.PrintWords W.PrintLast W.PrintMore Go.Proofs.Yteemomncbcpdjaa.PlainM Go.Proofs.Yteemomncbcpdjaa.Plain
theorem zZf (A : List Int) (hA : A.length ≤ 1000) : ∀ (m j k : Nat), j + m = A.length → qQ2.l0 (m + 1 + k) A A (j : Int) = some true := by
  intro m
  induction m with
  | zero => intro j k hj; rw [show 0 + 1 + k = k + 1 by omega]; simp only [qQ2.l0]; rw [if_neg (by omega)]
  | succ m ih =>
    intro j k hj
    rw [show m + 1 + 1 + k = (m + 1 + k) + 1 by omega]
    simp only [qQ2.l0]
    rw [if_pos (by omega), if_pos (by omega), if_pos (by omega), if_pos trivial, w64 (e := (j : Int) + 1) (by omega) (by omega), show ((j : Int) + 1) = ((j + 1 : Nat) : Int) by omega, ih (j + 1) k (by omega)]
theorem qJx (A : List Int) (hA : A.length ≤ 1000) (k : Nat) (hk : 1100 ≤ k) : qQ2.f k A A = some true := by
  unfold qQ2.f
  rw [if_pos rfl]
  obtain ⟨q, rfl⟩ : ∃ q, k = A.length + 1 + q := ⟨k - (A.length + 1), by omega⟩
  exact zZf A hA A.length 0 q (by omega)
theorem zZc (x : S43) : qYf.f x.f0 x.f1 x.f2 x.f3 x.f4 x.f5 x.f6 x.f7 x.f8 x.f9 x.f10 x.f11 x.f12 x.f0 x.f1 x.f2 x.f3 x.f4 x.f5 x.f6 x.f7 x.f8 x.f9 x.f10 x.f11 x.f12 = some true := by
  unfold qYf.f
  simp
theorem zQb (A : List S43) (hA : A.length ≤ 1000) : ∀ (m j k : Nat), j + m = A.length → qQj.l0 (m + 1 + k) A A (j : Int) = some true := by
  intro m
  induction m with
  | zero => intro j k hj; rw [show 0 + 1 + k = k + 1 by omega]; simp only [qQj.l0]; rw [if_neg (by omega)]
  | succ m ih =>
    intro j k hj
    rw [show m + 1 + 1 + k = (m + 1 + k) + 1 by omega]
    simp only [qQj.l0]
    rw [if_pos (by omega), if_pos (by omega), if_pos (by omega), zZc]
    simp only [obind]
    rw [if_pos trivial, w64 (e := (j : Int) + 1) (by omega) (by omega), show ((j : Int) + 1) = ((j + 1 : Nat) : Int) by omega, ih (j + 1) k (by omega)]
theorem qKs (A : List S43) (hA : A.length ≤ 1000) (k : Nat) (hk : 1100 ≤ k) : qQj.f k A A = some true := by
  unfold qQj.f
  rw [if_pos rfl]
  obtain ⟨q, rfl⟩ : ∃ q, k = A.length + 1 + q := ⟨k - (A.length + 1), by omega⟩
  exact zQb A hA A.length 0 q (by omega)
theorem parts_eq (a b c d : Int) : qZf.f a b c d a b c d = some true := by
  unfold qZf.f
  simp
theorem zZb (l : List S43) (hl : l.length ≤ 1000) : qZ4.f l = some l := by
  unfold qZ4.f
  simp only [obind, List.length_nil, List.nil_append]
  rw [if_pos (by omega)]
theorem qKk (l : List S43) (hl : l.length ≤ 100000) (k : Nat) : qZ7.f k l = some (toI (plD l)) := by
  unfold qZ7.f qZ9.f; rw [if_pos hl]; rfl
theorem zQs (l : List S43) (a : Int) : (outL l a).length = l.length := by unfold outL; rw [qKn]
theorem wakes20 (k : Nat) (hk : 1200 ≤ k) : qQ3.f k = some true := by
  have e : payR [(⟨1, 10, 0, 0, 2, 5, false, 5, 0, 0, 0, 0, 0⟩ : S43), (⟨2, 10, 3000000, 0, 0, 9, false, 5, 0, 0, 0, 0, 0⟩ : S43)] 7 = ([(⟨1, 10, 0, 0, 0, 5, false, 5, 0, 0, 0, 0, 0⟩ : S43), (⟨2, 8, 0, 0, 0, 9, false, 5, 0, 0, 0, 0, 0⟩ : S43)], 2, 3, 2, 0, 0) := by kernel_rfl
  have d : toI (plD [(⟨1, 10, 0, 0, 2, 5, false, 5, 0, 0, 0, 0, 0⟩ : S43), (⟨2, 10, 3000000, 0, 0, 9, false, 5, 0, 0, 0, 0, 0⟩ : S43)]) = [1, 0] := by kernel_rfl
  unfold qQ3.f
  simp only [obind]
  rw [qVg _ _ (by decide) k (by omega), e]
  simp only [obind]
  rw [if_pos trivial, if_pos (by decide), if_pos trivial, if_pos trivial, if_pos trivial, if_pos trivial, if_pos (by decide), if_pos (by decide), qKk _ (by decide) k, d]
  simp only [obind]
  rw [qJx [1, 0] (by decide) k (by omega)]
  rfl
end Go.Proofs.Yteemomncbcpdjaa.Pure
