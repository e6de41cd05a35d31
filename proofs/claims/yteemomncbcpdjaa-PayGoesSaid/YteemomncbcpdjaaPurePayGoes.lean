/- A part of a proof. -/
import Derived.Test.YteemomncbcpdjaaPx17
import Derived.Test.YteemomncbcpdjaaPayRef
import Derived.Test.YteemomncbcpdjaaPayKeep0
namespace Go.Proofs.Yteemomncbcpdjaa.Pure
set_option linter.unusedVariables false
set_option linter.unusedSimpArgs false
open Go.RowKit Go.Proofs.Yteemomncbcpdjaa.P W.PrintWords W.PrintLast W.PrintMore Go.Proofs.Yteemomncbcpdjaa.PlainM Go.Proofs.Yteemomncbcpdjaa.Plain
theorem PayGoes : qQ8.Pure := by
  intro l a hm _ _ _
  obtain ⟨k, hk⟩ : ∃ k : Nat, 2000 ≤ k := ⟨2000, by omega⟩
  refine ⟨k, ?_⟩
  unfold qQ8.f
  by_cases c : (l.length : Int) > 100
  · rw [if_pos c, wakes20 k (by omega)]; rfl
  rw [if_neg c, zZb l (by omega)]
  simp only [obind]
  have hD := qKd l
  have hop := qJe l
  rw [qVg l a (by omega) k (by omega), qKw l a (by omega) k (by omega)]
  simp only [obind]
  rw [qKk l (by omega) k]
  unfold qQz.f
  rw [if_pos (by omega)]
  simp only [obind]
  rw [qJx _ (by rw [qYk]; omega) k (by omega)]
  simp only [obind]
  have hp : (payR l a).1.length ≤ 1000 := by
    unfold payR
    by_cases n : noPay l a = true
    · rw [if_pos n]; simp
    · rw [if_neg n]; show (outL l a).length ≤ 1000; rw [zQs]; omega
  rw [if_pos trivial, qKs _ hp k (by omega)]
  simp only [obind]
  rw [if_pos trivial, parts_eq]
  simp only [obind]
  rw [if_pos trivial, if_pos trivial, qKs l (by omega) k (by omega)]
  simp only [obind]
  rw [if_pos trivial, wakes20 k (by omega)]
  rfl
end Go.Proofs.Yteemomncbcpdjaa.Pure
