/- A part of a proof. -/
import Derived.Test.YtlhcohipnieidaaPx9
import Derived.Test.YtlhcohipnieidaaLoanEv
namespace Go.Proofs.Ytlhcohipnieidaa.PureLo
set_option linter.unusedVariables false
set_option linter.unusedSimpArgs false
open Go.RowKit Go.Proofs.Ytlhcohipnieidaa.P Go.Proofs.YtlhcohipnieidaaW.PrintWords Go.Proofs.YtlhcohipnieidaaW.PrintLast Go.Proofs.YtlhcohipnieidaaW.PrintMore Go.Proofs.Ytlhcohipnieidaa.PlainM Go.Proofs.Ytlhcohipnieidaa.PureL
theorem ref_money_is (a : Int) : annuityref14_money.f a = some (decide (mon a)) := by
  unfold annuityref14_money.f
  by_cases c : a ≥ 0
  · rw [if_pos c, ref_mGood_is]; simp only [obind]; congr 1; rw [decide_eq_decide]; unfold mon; omega
  · rw [if_neg c, decide_eq_false (by unfold mon; omega)]
theorem ref_micro_is (a : Int) : annuityref14_micro.f a = some (decide (0 ≤ a ∧ a ≤ 1000000000000000000)) := by
  unfold annuityref14_micro.f
  by_cases c : a ≥ 0
  · rw [if_pos c]; congr 1; rw [decide_eq_decide]; omega
  · rw [if_neg c, decide_eq_false (by omega)]
theorem ref_good_is (id pr it su fe ppm : Int) (sd : Bool) (st cl en le fa ct : Int) :
    annuityref14_Good.f id pr it su fe ppm sd st cl en le fa ct = some (decide (gd id pr it su fe ppm st cl en le fa ct)) := by
  have F : ¬ gd id pr it su fe ppm st cl en le fa ct → some false = some (decide (gd id pr it su fe ppm st cl en le fa ct)) := fun h => by rw [decide_eq_false h]
  unfold annuityref14_Good.f
  by_cases h1 : id < 1
  · rw [if_pos h1]; exact F (fun h => by unfold gd at h; omega)
  rw [if_neg h1]
  by_cases h2 : id > 1000
  · rw [if_pos h2]; exact F (fun h => by unfold gd at h; omega)
  rw [if_neg h2]
  simp only [ref_money_is, ref_micro_is, obind, decide_eq_true_eq]
  by_cases a1 : mon pr
  case neg => rw [if_neg a1]; exact F (fun h => a1 h.2.1.1)
  rw [if_pos a1]
  by_cases a2 : mon fe
  case neg => rw [if_neg a2]; exact F (fun h => a2 h.2.1.2.1)
  rw [if_pos a2]
  by_cases a3 : 0 ≤ it ∧ it ≤ 1000000000000000000
  case neg => rw [if_neg a3]; exact F (fun h => a3 h.2.2.1.1)
  rw [if_pos a3]
  by_cases a4 : 0 ≤ su ∧ su ≤ 1000000000000000000
  case neg => rw [if_neg a4]; exact F (fun h => a4 h.2.2.1.2)
  rw [if_pos a4]
  by_cases h8 : ppm < 0
  · rw [if_pos h8]; exact F (fun h => by unfold gd at h; omega)
  rw [if_neg h8]
  by_cases h9 : ppm > 1000000
  · rw [if_pos h9]; exact F (fun h => by unfold gd at h; omega)
  rw [if_neg h9]
  by_cases h10 : st < 1
  · rw [if_pos h10]; exact F (fun h => by unfold gd at h; omega)
  rw [if_neg h10]
  by_cases h11 : st > 5
  · rw [if_pos h11]; exact F (fun h => by unfold gd at h; omega)
  rw [if_neg h11]
  by_cases h12 : cl < 0
  · rw [if_pos h12]; exact F (fun h => by unfold gd at h; omega)
  rw [if_neg h12]
  by_cases h13 : cl > 4
  · rw [if_pos h13]; exact F (fun h => by unfold gd at h; omega)
  rw [if_neg h13]
  by_cases h14 : en < -1
  · rw [if_pos h14]; exact F (fun h => by unfold gd at h; omega)
  rw [if_neg h14]
  by_cases h15 : en > 87658
  · rw [if_pos h15]; exact F (fun h => by unfold gd at h; omega)
  rw [if_neg h15]
  by_cases a5 : mon le
  case neg => rw [if_neg a5]; exact F (fun h => a5 h.2.1.2.2.1)
  rw [if_pos a5]
  by_cases a6 : mon fa
  case neg => rw [if_neg a6]; exact F (fun h => a6 h.2.1.2.2.2)
  rw [if_pos a6]
  by_cases h16 : ct < 0
  · rw [if_pos h16]; exact F (fun h => by unfold gd at h; omega)
  rw [if_neg h16]
  have G : ∀ {b : Bool}, (b = true ↔ (cl = 0 ∨ pr = 0 ∧ it = 0 ∧ fe = 0)) → some b = some (decide (gd id pr it su fe ppm st cl en le fa ct)) := fun {b} h => by
    have e : (gd id pr it su fe ppm st cl en le fa ct) ↔ (cl = 0 ∨ pr = 0 ∧ it = 0 ∧ fe = 0) :=
      ⟨fun h => h.2.2.2.2.2.2, fun h => ⟨by omega, ⟨a1, a2, a5, a6⟩, ⟨a3, a4⟩, ⟨by omega, by omega, by omega⟩, by omega, by omega, h⟩⟩
    cases b with
    | true => rw [decide_eq_true (e.mpr (h.mp rfl))]
    | false => rw [decide_eq_false (fun c => by have := h.mpr (e.mp c); cases this)]
  by_cases h17 : cl = 0
  · rw [if_pos h17]; exact G ⟨fun _ => .inl h17, fun _ => rfl⟩
  rw [if_neg h17]
  by_cases h18 : pr = 0
  case neg => rw [if_neg h18]; exact G ⟨fun h => by simp at h, fun h => by omega⟩
  rw [if_pos h18]
  by_cases h19 : it = 0
  case neg => rw [if_neg h19]; exact G ⟨fun h => by simp at h, fun h => by omega⟩
  rw [if_pos h19]
  exact G ⟨fun h => .inr ⟨h18, h19, by simpa using h⟩, fun h => by simp; omega⟩
end Go.Proofs.Ytlhcohipnieidaa.PureLo
