/- A part of a proof. -/
import Derived.Test.YtlhcohipnieidaaPx17
import Derived.Test.YtlhcohipnieidaaPx34
import Derived.Test.YtlhcohipnieidaaPlanWakes
import Derived.Test.YtlhcohipnieidaaLoanRef
namespace Go.Proofs.Ytlhcohipnieidaa.PurePl
set_option linter.unusedVariables false
set_option linter.unusedSimpArgs false
open Go.RowKit Go.Proofs.Ytlhcohipnieidaa.P Go.Proofs.YtlhcohipnieidaaW.PrintWords Go.Proofs.YtlhcohipnieidaaW.PrintLast Go.Proofs.YtlhcohipnieidaaW.PrintMore Go.Proofs.Ytlhcohipnieidaa.PlainM
open Go.Proofs.Ytlhcohipnieidaa.PureLo (gd mon owesS good_is owes_is)
theorem keep_self (a b c d e f : Int) (g : Bool) (h i j l m n : Int) : annuitykeep_Loan.f a b c d e f g h i j l m n a b c d e f g h i j l m n = some true := by
  simp [annuitykeep_Loan.f]
theorem set_both (a0 a1 a2 a3 a4 a5 : Int) (a6 : Bool) (a7 a8 a9 a10 a11 a12 : Int) : ∃ r, ∀ k : Nat, 600 ≤ k → plan_Set.f k a0 a1 a2 a3 a4 a5 a6 a7 a8 a9 a10 a11 a12 = some r ∧ annuityref18_Set.f k a0 a1 a2 a3 a4 a5 a6 a7 a8 a9 a10 a11 a12 = some r := by
  obtain ⟨v, e, hs, hf⟩ := Pure.Of_both a1 a5 120
  obtain ⟨v', e', hs', hf'⟩ := Pure.Of_both a1 a5 300
  refine ⟨if gd a0 a1 a2 a3 a4 a5 a7 a8 a9 a10 a11 a12 then (if a8 = 0 then (if e = 0 then (if e' = 0 then (a0, a1, a2, a3, a4, a5, a6, a7, a8, a9, v, v', a12, 0) else (0, 0, 0, 0, 0, 0, false, 0, 0, 0, 0, 0, 0, e')) else (0, 0, 0, 0, 0, 0, false, 0, 0, 0, 0, 0, 0, e)) else (0, 0, 0, 0, 0, 0, false, 0, 0, 0, 0, 0, 0, 61)) else (0, 0, 0, 0, 0, 0, false, 0, 0, 0, 0, 0, 0, 1), fun k hk => ⟨?_, ?_⟩⟩
  · unfold plan_Set.f
    rw [good_is _ _ _ _ _ _ _ _ _ _ _ _ _ k (by omega), hf k (by omega), hf' k (by omega)]
    simp only [obind, decide_eq_true_eq]
    (repeat' split) <;> rfl
  · unfold annuityref18_Set.f
    rw [PureLo.ref_good_is, Pure.ref_Of_is hs k hk, Pure.ref_Of_is hs' k hk]
    simp only [obind, decide_eq_true_eq]
    (repeat' split) <;> rfl
theorem PlanSets : annuitylaw18_PlanSets.Pure := by
  intro a0 a1 a2 a3 a4 a5 a6 a7 a8 a9 a10 a11 a12 _ _ _ _ _ _ _ _ _ _ _ _
  obtain ⟨k, hk⟩ : ∃ k : Nat, 7000 ≤ k := ⟨_, Nat.le_refl _⟩
  refine ⟨k, ?_⟩
  obtain ⟨r, hr⟩ := set_both a0 a1 a2 a3 a4 a5 a6 a7 a8 a9 a10 a11 a12
  unfold annuitylaw18_PlanSets.f
  rw [(hr k (by omega)).1, (hr k (by omega)).2, obind, obind, keep_self, obind, if_pos rfl, if_pos rfl, wakes18 k hk]
  rfl
end Go.Proofs.Ytlhcohipnieidaa.PurePl
namespace Go.Proofs.Ytlhcohipnieidaa.Pure
theorem PlanSets : Go.Proofs.Ytlhcohipnieidaa.P.annuitylaw18_PlanSets.Pure := PurePl.PlanSets
end Go.Proofs.Ytlhcohipnieidaa.Pure
