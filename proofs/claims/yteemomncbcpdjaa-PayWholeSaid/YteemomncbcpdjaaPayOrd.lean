/- Who comes first is paid in full before who comes later gets anything. -/
import Derived.Test.YteemomncbcpdjaaPayIs
namespace Go.Proofs.Yteemomncbcpdjaa.Pure
set_option linter.unusedVariables false
set_option linter.unusedSectionVars false
set_option linter.unusedSimpArgs false
open Go.RowKit Go.Proofs.Yteemomncbcpdjaa.P Go.Proofs.YteemomncbcpdjaaW.PrintWords Go.Proofs.YteemomncbcpdjaaW.PrintLast Go.Proofs.YteemomncbcpdjaaW.PrintMore Go.Proofs.Yteemomncbcpdjaa.PlainM Go.Proofs.Yteemomncbcpdjaa.Plain
theorem val_get (D : List Nat) (v : List Int) (hn : D.Nodup) (h : D.length = v.length) (p : Nat) (hp : p < D.length) : v[p]? = some (val D v D[p]) := by
  rw [val_at D v hn h p hp]
  exact List.getElem?_eq_getElem (by omega)
section
variable {l : List S43} {a : Int} (hg : ∀ x ∈ l, gdL x) (ha : 0 ≤ a)
include hg ha
end
/-- What a loan holds that was paid. -/
theorem pdS_is (x : S43) (pf pi pp : Int) : (pdS x pf pi pp).f4 = x.f4 - pf ∧ (pdS x pf pi pp).f1 = x.f1 - pp ∧ ((pdS x pf pi pp).f2 = x.f2 - pi * 1000000 ∨ (pdS x pf pi pp).f2 = 0 ∧ (x.f2 - pi * 1000000) / 1000000 = 0) ∧ ((pdS x pf pi pp).f8 = 0 ∨ (pdS x pf pi pp).f8 = 1) := by
  unfold pdS
  by_cases c : x.f4 - pf = 0 ∧ (x.f2 - pi * 1000000) / 1000000 = 0 ∧ x.f1 - pp = 0
  · rw [if_pos c]; exact ⟨c.1.symm, c.2.2.symm, .inr ⟨rfl, c.2.1⟩, .inr rfl⟩
  · rw [if_neg c]; exact ⟨rfl, rfl, .inl rfl, .inl rfl⟩
theorem out_at {l : List S43} {a : Int} (i : Nat) (hi : i < l.length) (h8 : (rn l i).f8 = 0) : rn (outL l a) i = pdA l a i := by unfold outL; rw [updS_at _ _ _ _ hi, if_pos (plD_mem.2 ⟨hi, h8⟩)]
theorem out_cl {l : List S43} {a : Int} (i : Nat) (hi : i < l.length) (h8 : ¬ (rn l i).f8 = 0) : rn (outL l a) i = rn l i := by unfold outL; rw [updS_at _ _ _ _ hi, if_neg (fun h => h8 (plD_mem.1 h).2)]
theorem pdS_good' (x : S43) (pf pi pp : Int) (g : gdL x) (h8 : x.f8 = 0) (h1 : 0 ≤ pf ∧ pf ≤ x.f4) (h2 : 0 ≤ pi ∧ pi ≤ x.f2 / 1000000) (h3 : 0 ≤ pp ∧ pp ≤ x.f1) : gdL (pdS x pf pi pp) := by
  unfold gdL gd mon at g ⊢
  unfold pdS
  by_cases c : x.f4 - pf = 0 ∧ (x.f2 - pi * 1000000) / 1000000 = 0 ∧ x.f1 - pp = 0
  · rw [if_pos c]; dsimp only; omega
  · rw [if_neg c]; dsimp only; omega
end Go.Proofs.Yteemomncbcpdjaa.Pure
