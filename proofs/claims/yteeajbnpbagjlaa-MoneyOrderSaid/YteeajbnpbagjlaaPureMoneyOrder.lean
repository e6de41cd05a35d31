/- MoneyOrder: of more there is no less, by a greater divisor no more, however it is rounded; in parts, rounded down, never more than at once; for every input. -/
import Derived.Test.YteeajbnpbagjlaaPx10
import Derived.Test.YteeajbnpbagjlaaMoneyLaws
namespace Go.Proofs.Yteeajbnpbagjlaa.Pure
set_option linter.unusedVariables false
open Go.RowKit Go.Proofs.Yteeajbnpbagjlaa.P Go.Proofs.YteeajbnpbagjlaaW.PrintWords Go.Proofs.YteeajbnpbagjlaaW.PrintLast Go.Proofs.YteeajbnpbagjlaaW.PrintMore Go.Proofs.Yteeajbnpbagjlaa.PlainM
theorem order_l0 (lo hi d e : Int) (h0 : 0 ≤ lo) (h1 : lo ≤ hi) (h2 : hi ≤ 4294967295) (hd : 1 ≤ d) (he : d ≤ e) (he' : e ≤ 65536) : ∀ (n k : Nat) (how : Int), 0 ≤ how → how + n = 3 → n + 60 < k →
    annuitylaw01_MoneyOrder.l0 k lo hi d e how = some true := by
  have q : ∀ x y : Int, ∀ how : Int, ∀ k : Nat, 0 ≤ x → x ≤ 8589934590 → 1 ≤ y → y ≤ 65536 → 0 ≤ how → how ≤ 2 → 50 ≤ k → money_MulDiv.f k x 1000 y how = some (rq (x * 1000) y how, 0) := by
    intro x y how k a1 a2 a3 a4 a5 a6 a7
    rw [money_MulDiv_is x 1000 y how k (by omega) (by omega) (by omega) (by omega), mdS_rq x 1000 y how a1 (by omega) (by omega) a5 a6 (by omega)]
  intro n
  induction n with
  | zero =>
    intro k how a b c
    obtain ⟨k, rfl⟩ : ∃ m, k = m + 1 := ⟨k - 1, by omega⟩
    simp only [annuitylaw01_MoneyOrder.l0]
    rw [if_neg (by omega), w64 (e := lo + hi) (by omega) (by omega), q lo d 0 k (by omega) (by omega) hd (by omega) (by omega) (by omega) (by omega), q hi d 0 k (by omega) (by omega) hd (by omega) (by omega) (by omega) (by omega), q (lo + hi) d 0 k (by omega) (by omega) hd (by omega) (by omega) (by omega) (by omega)]
    simp only [obind, if_true]
    rw [rq0, rq0, rq0, Int.add_mul, wakes01 k (by omega)]
    have p := parts_down (lo * 1000) (hi * 1000) d (by omega)
    have b1 : 0 ≤ lo * 1000 / d := Int.ediv_nonneg (by omega) (by omega)
    have b2 : 0 ≤ hi * 1000 / d := Int.ediv_nonneg (by omega) (by omega)
    have b3 := Int.ediv_le_self d (show 0 ≤ lo * 1000 by omega)
    have b4 := Int.ediv_le_self d (show 0 ≤ hi * 1000 by omega)
    rw [w64 (e := lo * 1000 / d + hi * 1000 / d) (by omega) (by omega), w64 (by omega) (by omega), if_pos p.1, if_pos p.2]
    rfl
  | succ n ih =>
    intro k how a b c
    obtain ⟨k, rfl⟩ : ∃ m, k = m + 1 := ⟨k - 1, by omega⟩
    simp only [annuitylaw01_MoneyOrder.l0]
    rw [if_pos (by omega), q lo d how k (by omega) (by omega) hd (by omega) (by omega) (by omega) (by omega), q hi d how k (by omega) (by omega) hd (by omega) (by omega) (by omega) (by omega), q lo e how k (by omega) (by omega) (by omega) (by omega) (by omega) (by omega) (by omega)]
    simp only [obind, if_true]
    have m1 := rq_more (lo * 1000) (hi * 1000) d how (by omega) a (by omega) (by omega)
    have m2 := rq_less (lo * 1000) d e how (by omega) (by omega) he a (by omega)
    rw [if_neg (by omega), if_neg (by omega), w64 (e := how + 1) (by omega) (by omega)]
    exact ih k (how + 1) (by omega) (by omega) (by omega)
theorem MoneyOrder : annuitylaw01_MoneyOrder.Pure := by
  intro a b c d ha hb hc hd
  have ha := wfu32 ha; have hb := wfu32 hb; have hc := wfu16 hc; have hd := wfu16 hd
  obtain ⟨k, hk⟩ : ∃ k : Nat, 100 ≤ k := ⟨_, Nat.le_refl _⟩
  refine ⟨k, ?_⟩
  unfold annuitylaw01_MoneyOrder.f
  have h1 : 0 ≤ mn a b ∧ mn a b ≤ mx a b ∧ mx a b ≤ 4294967295 := by unfold mn mx; (repeat' split) <;> omega
  have h2 : 0 ≤ mn c d ∧ mn c d ≤ mx c d ∧ mx c d ≤ 65535 := by unfold mn mx; (repeat' split) <;> omega
  rw [w64 (e := mn a b) (by omega) (by omega), w64 (e := mx a b) (by omega) (by omega), w64 (e := mn c d) (by omega) (by omega), w64 (e := mx c d) (by omega) (by omega), w64 (e := mn c d + 1) (by omega) (by omega), w64 (e := mx c d + 1) (by omega) (by omega)]
  exact order_l0 _ _ _ _ (by omega) (by omega) (by omega) (by omega) (by omega) (by omega) 3 k 0 (by omega) (by omega) (by omega)
end Go.Proofs.Yteeajbnpbagjlaa.Pure
