/- The plans' own check comes to true, for every number of rounds that is large enough. -/
import Derived.Test.YtlhcohipnieidaaPx31
import Derived.Test.YtlhcohipnieidaaPx33
import Derived.Test.YtlhcohipnieidaaPlanEv
namespace Go.Proofs.Ytlhcohipnieidaa.PurePl
set_option linter.unusedVariables false
set_option linter.unusedSimpArgs false
open Go.RowKit Go.Proofs.Ytlhcohipnieidaa.P Go.Proofs.YtlhcohipnieidaaW.PrintWords Go.Proofs.YtlhcohipnieidaaW.PrintLast Go.Proofs.YtlhcohipnieidaaW.PrintMore Go.Proofs.Ytlhcohipnieidaa.PlainM
open Go.Proofs.Ytlhcohipnieidaa.PureLo (gd mon owesS good_is owes_is)
/-- The check's loan. -/
def wl : LT := ⟨1, 120000, 0, 0, 0, 0, false, 5, 0, 0, 1000, 400, 0⟩
theorem set_wakes (k : Nat) (hk : 600 ≤ k) : plan_Set.f k 1 120000 0 0 0 0 false 5 0 0 0 0 0 = some (1, 120000, 0, 0, 0, 0, false, 5, 0, 0, 1000, 400, 0, 0) := by
  unfold plan_Set.f
  rw [good_is _ _ _ _ _ _ _ _ _ _ _ _ _ k (by omega), decide_eq_true (show gd 1 120000 0 0 0 0 5 0 0 0 0 0 by decide), obind, if_pos rfl, if_pos rfl,
    Pure.of_at (b := 120000) (r := 0) (m := 120) (p := 1000) (by decide) (by omega) (by omega) (by omega) (by unfold PlainL.En; decide +kernel) (.inr (by unfold PlainL.En; decide +kernel)) k (by omega), obind, if_pos rfl,
    Pure.of_at (b := 120000) (r := 0) (m := 300) (p := 400) (by decide) (by omega) (by omega) (by omega) (by unfold PlainL.En; decide +kernel) (.inr (by unfold PlainL.En; decide +kernel)) k (by omega), obind, if_pos rfl]
theorem ofL_wakes : ofL wl 1 40 = (1000, 0) := by decide +kernel
theorem add_wakes : addD 30 12 = (396, 0) := by
  have h := add_is 30 12 400 (Nat.le_refl _)
  rw [PureD.date_Add_ok 0 12 400 30 12 (by omega) (by decide +kernel) (by decide +kernel) (by omega) (by omega) (by omega)] at h
  rw [← Option.some.inj h]
  decide +kernel
theorem holds_wakes : holdsS 4 30 40 = 4 := by
  unfold holdsS
  rw [add_wakes]; rfl
theorem shares_wakes : sharesF [0] 1 12000 [wl] = ([100], 0) := by decide +kernel
theorem asksS_wakes : asksS [0] [wl] 4 30 12000 1 40 = ([1], [100], 0) := by
  unfold asksS
  rw [if_pos (by decide +kernel), show List.filter partL [wl] = [wl] from rfl]
  unfold partS
  rw [if_neg (by simp), holds_wakes, if_pos rfl, shares_wakes, if_pos rfl]
  decide +kernel
theorem wakes18 (k : Nat) (hk : 7000 ≤ k) : annuitylaw18_wakes.f k = some true := by
  unfold annuitylaw18_wakes.f
  rw [set_wakes k (by omega), obind]
  dsimp only
  have h1 : plan_Of.f k 1 120000 0 0 0 0 false 5 0 0 1000 400 0 1 40 = some (ofL wl 1 40) := of_is wl 1 40 k (by omega)
  rw [h1, ofL_wakes, obind]
  have h2 := asks_is 0 [0] 0 [wl] 4 30 12000 1 ([] : List BT) 0 0 0 0 0 0 40 (by simp) (by simp) k hk
  rw [asksS_wakes] at h2
  unfold wl at h2
  rw [h2, obind, if_pos rfl, if_pos rfl, if_pos rfl, if_pos rfl, if_pos rfl, if_pos rfl, PureD.keep_Ints_same [1] k (by simp) (by simp; omega), obind, if_pos rfl, PureSh.longs_same [100] k (by simp) (by simp; omega), obind, if_pos rfl]
  rfl
end Go.Proofs.Ytlhcohipnieidaa.PurePl
