/- DueParts: the months of two stretches that follow each other are those of both; for every input. -/
import Derived.Test.YtgogccjfoclakaaPx22
import Derived.Test.YtgogccjfoclakaaDueEv
namespace Go.Proofs.Ytgogccjfoclakaa.Pure
open Go.RowKit Go.Proofs.Ytgogccjfoclakaa.P Go.Proofs.YtgogccjfoclakaaW.PrintWords Go.Proofs.YtgogccjfoclakaaW.PrintLast Go.Proofs.YtgogccjfoclakaaW.PrintMore Go.Proofs.Ytgogccjfoclakaa.Plain
theorem months_in (f t : Int) (p q : Nat) (k : Nat) (hp : p < 2880) (p1 : st p ≤ f) (p2 : f < st (p + 1)) (hq : q < 2880) (q1 : st q ≤ t) (q2 : t < st (q + 1)) (h : f ≤ t) (hk : 3000 ≤ k) :
    due_Months.f k f t = some (Pure.run (p + 1) (q - p)) ∧ p ≤ q := by
  have hb := mo_bd hp p1 p2
  have := due_Months_ok f t (p + 1) q k (by omega) h hq q1 q2 (.inr ⟨p, rfl, hp, p1, p2⟩) hk
  rw [show q + 1 - (p + 1) = q - p by omega] at this
  exact ⟨this, Nat.le_of_not_lt fun c => by have := st_mono (show q + 1 ≤ p from c); omega⟩
theorem parts_key (x y z : Int) (k : Nat) (h0 : 0 ≤ x) (h1 : x ≤ y) (h2 : y ≤ z) (h3 : z ≤ 87658) (hk : 3000 ≤ k) :
    ∃ l r : List Int, l.length + r.length ≤ 3000 ∧ due_Months.f k x z = some (l ++ r) ∧ due_Months.f k x y = some l ∧ due_Months.f k y z = some r := by
  obtain ⟨p, hp, p1, p2⟩ := mo_ex x (by omega) (by omega)
  obtain ⟨q, hq, q1, q2⟩ := mo_ex y (by omega) (by omega)
  obtain ⟨s, hs, s1, s2⟩ := mo_ex z (by omega) (by omega)
  obtain ⟨a1, b1⟩ := months_in x y p q k hp p1 p2 hq q1 q2 h1 hk
  obtain ⟨a2, b2⟩ := months_in y z q s k hq q1 q2 hs s1 s2 h2 hk
  obtain ⟨a3, b3⟩ := months_in x z p s k hp p1 p2 hs s1 s2 (by omega) hk
  refine ⟨_, _, ?_, ?_, a1, a2⟩
  · rw [run_length, run_length]; omega
  · rw [a3, show s - p = (q - p) + (s - q) by omega, run_add, show p + 1 + (q - p) = q + 1 by omega]
theorem DueParts : annuitylaw05_DueParts.Pure := by
  intro a0 a1 a2 _ _ _
  obtain ⟨k, hk⟩ : ∃ k : Nat, 4000 ≤ k := ⟨_, Nat.le_refl _⟩
  refine ⟨k, ?_⟩
  obtain ⟨b0, b1⟩ := mod_lt a0 87659 (by omega)
  obtain ⟨c0, c1⟩ := mod_lt a1 87659 (by omega)
  obtain ⟨d0, d1⟩ := mod_lt a2 87659 (by omega)
  unfold annuitylaw05_DueParts.f
  rw [keep_Mod_is _ _ (by omega) (by omega), keep_Mod_is _ _ (by omega) (by omega), keep_Mod_is _ _ (by omega) (by omega)]
  simp only [obind]
  generalize a0 % 87659 = x at *
  generalize a1 % 87659 = y at *
  generalize a2 % 87659 = z at *
  obtain ⟨lo, mid, hi, e1, e2, e3, g0, g1, g2, g3⟩ : ∃ lo mid hi : Int, mn (mn x y) z = lo ∧ mx (mx x y) z = hi ∧ wrap64 (wrap64 (wrap64 (wrap64 (x + y) + z) - lo) - hi) = mid ∧ 0 ≤ lo ∧ lo ≤ mid ∧ mid ≤ hi ∧ hi ≤ 87658 := by
    refine ⟨_, _, _, rfl, rfl, rfl, ?_⟩
    have hlo : 0 ≤ mn (mn x y) z ∧ mn (mn x y) z ≤ 87658 := by unfold mn; (repeat' split) <;> omega
    have hhi : 0 ≤ mx (mx x y) z ∧ mx (mx x y) z ≤ 87658 := by unfold mx; (repeat' split) <;> omega
    rw [w64 (e := x + y) (by omega) (by omega), w64 (e := x + y + z) (by omega) (by omega), w64 (e := x + y + z - _) (by omega) (by omega), w64 (by omega) (by omega)]
    unfold mn mx
    (repeat' split) <;> omega
  rw [e1, e2, e3]
  obtain ⟨l, r, hlr, h1, h2, h3⟩ := parts_key lo mid hi k g0 g1 g2 g3 (by omega)
  rw [h1, h2]
  simp only [obind, List.nil_append]
  rw [if_pos (by simp only [List.length_nil]; omega), h3]
  simp only [obind]
  rw [if_pos (by omega), keep_Ints_same (l ++ r) k (by rw [List.length_append]; omega) (by rw [List.length_append]; omega)]
  simp only [obind, if_true]
  rw [wakes05 k (by omega)]
  rfl
end Go.Proofs.Ytgogccjfoclakaa.Pure
