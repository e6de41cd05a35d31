/- LevelMore: who pays more has no more left; who owes more, at a higher rate, in fewer months, pays no less a month; for every input. -/
import Derived.Test.YtgobgjokelbngaaPx34
import Derived.Test.YtgobgjokelbngaaLevelEv
namespace Go.Proofs.Ytgobgjokelbngaa.Pure
set_option linter.unusedVariables false
open Go.RowKit Go.Proofs.Ytgobgjokelbngaa.P Go.Proofs.YtgobgjokelbngaaW.PrintWords Go.Proofs.YtgobgjokelbngaaW.PrintLast Go.Proofs.YtgobgjokelbngaaW.PrintMore Go.Proofs.Ytgobgjokelbngaa.PlainM Go.Proofs.Ytgobgjokelbngaa.PlainL
theorem more_j1 (k : Nat) (hk : 600 ≤ k) (lo hi r s n m : Int) (h1 : 0 ≤ lo) (h2 : lo ≤ hi) (h3 : hi ≤ 4294967295) (h4 : 0 ≤ r) (h5 : r ≤ s) (h6 : s ≤ 65535) (h7 : 1 ≤ n) (h8 : n ≤ m) (h9 : m ≤ 300) :
    annuitylaw15_LevelMore.j1 (k + 1) lo hi r s n m false = some true := by
  simp only [annuitylaw15_LevelMore.j1]
  obtain ⟨x, g, hx, fx⟩ := Of_both lo r m
  obtain ⟨y, h, hy, fy⟩ := Of_both hi s n
  rw [if_neg (by simp), fx k (by omega), fy k (by omega), wakes15 k (by omega)]
  simp only [obind]
  cases hy with
  | bad a => rw [if_neg (by omega), if_pos rfl]
  | none a b c => rw [if_neg (by omega), if_pos rfl]
  | least p a b l =>
    rw [if_pos rfl]
    have e1 : En lo y r n.toNat := En_mono h1 h2 (by omega) h4 h5 l.nn (Int.le_refl _) l.en
    have e2 : En lo y r m.toNat := En_months l.nn (by omega) e1
    cases hx with
    | bad q => exact absurd ⟨⟨⟨h1, by omega⟩, ⟨by omega, by omega⟩, ⟨h4, by omega⟩, by omega, by omega⟩, by omega⟩ q
    | none _ _ q => exact absurd (En_mono h1 (Int.le_refl _) (by omega) h4 (Int.le_refl _) l.nn l.le e2) q
    | least q _ _ l' =>
      rw [if_pos rfl, if_pos ((least_iff h1 (by omega) h4 l' l.nn).1 e2)]
theorem more_j0 (k : Nat) (hk : 600 ≤ k) (lo hi r s n m p q : Int) (h1 : 0 ≤ lo) (h2 : lo ≤ hi) (h3 : hi ≤ 4294967295) (h4 : 0 ≤ r) (h5 : r ≤ s) (h6 : s ≤ 65535) (h7 : 1 ≤ n) (h8 : n ≤ m) (h9 : m ≤ 300) (hp : 0 ≤ p ∧ p ≤ 4294967295) (hq : 0 ≤ q ∧ q ≤ 4294967295) :
    annuitylaw15_LevelMore.j0 (k + 2) lo hi r s n m p q = some true := by
  simp only [annuitylaw15_LevelMore.j0]
  have a0 : mn p q = if p ≤ q then p else q := mn_is p q
  have b0 : mx p q = if p ≤ q then q else p := mx_is p q
  generalize mn p q = a at *
  generalize mx p q = b at *
  have ab : 0 ≤ a ∧ a ≤ b ∧ b ≤ 4294967295 := by rw [a0, b0]; split <;> omega
  clear a0 b0
  rw [w64 (e := a) (by omega) (by omega), w64 (e := b) (by omega) (by omega)]
  rw [level_Left_is (k + 1) (by omega), level_Left_is (k + 1) (by omega), if_pos (show May hi a r n from ⟨by omega, by omega, by omega, by omega⟩), if_pos (show May hi b r n from ⟨by omega, by omega, by omega, by omega⟩)]
  simp only [obind]
  by_cases c : (leftS a r n.toNat hi).2 = 0
  · obtain ⟨m1, m2⟩ := leftS_mono (r' := r) h4 (Int.le_refl _) ab.1 ab.2.1 n.toNat hi hi (by omega) (Int.le_refl _) c
    rw [if_pos c, if_pos m1, decide_eq_false (by omega)]
    exact more_j1 k hk lo hi r s n m h1 h2 h3 h4 h5 h6 h7 h8 h9
  · rw [if_neg c]
    exact more_j1 k hk lo hi r s n m h1 h2 h3 h4 h5 h6 h7 h8 h9
theorem mnmx (p q : Int) : mn p q ≤ mx p q ∧ (mn p q = p ∧ mx p q = q ∨ mn p q = q ∧ mx p q = p) := by rw [mn_is, mx_is]; split <;> omega
theorem LevelMore : annuitylaw15_LevelMore.Pure := by
  intro a0 a1 b0 b1 c0 c1 c2 c3 ha0 ha1 hb0 hb1 hc0 hc1 hc2 hc3
  have ha0 := wfu32 ha0; have ha1 := wfu32 ha1; have hb0 := wfu32 hb0; have hb1 := wfu32 hb1
  have hc0 := wfu16 hc0; have hc1 := wfu16 hc1; have hc2 := wfu16 hc2; have hc3 := wfu16 hc3
  obtain ⟨k, hk⟩ : ∃ k : Nat, 700 ≤ k := ⟨_, Nat.le_refl _⟩
  refine ⟨k + 2, ?_⟩
  unfold annuitylaw15_LevelMore.f
  have ma := mnmx a0 a1
  have mc := mnmx c0 c1
  have md := mnmx c2 c3
  generalize mn a0 a1 = lo at *
  generalize mx a0 a1 = hi at *
  generalize mn c0 c1 = r at *
  generalize mx c0 c1 = s at *
  generalize mn c2 c3 = n at *
  generalize mx c2 c3 = m at *
  rw [w64 (e := lo) (by omega) (by omega), w64 (e := hi) (by omega) (by omega), w64 (e := r) (by omega) (by omega), w64 (e := s) (by omega) (by omega), w64 (e := n) (by omega) (by omega), w64 (e := m) (by omega) (by omega)]
  rw [Int.tmod_eq_emod_of_nonneg (by omega), Int.tmod_eq_emod_of_nonneg (by omega), w64 (e := 1 + n % 300) (by omega) (by omega), w64 (e := 1 + m % 300) (by omega) (by omega)]
  by_cases c : 1 + n % 300 > 1 + m % 300
  · rw [if_pos c]
    exact more_j0 k (by omega) lo hi r s _ _ b0 b1 (by omega) (by omega) (by omega) (by omega) (by omega) (by omega) (by omega) (by omega) (by omega) hb0 hb1
  · rw [if_neg c]
    exact more_j0 k (by omega) lo hi r s _ _ b0 b1 (by omega) (by omega) (by omega) (by omega) (by omega) (by omega) (by omega) (by omega) (by omega) hb0 hb1
end Go.Proofs.Ytgobgjokelbngaa.Pure
