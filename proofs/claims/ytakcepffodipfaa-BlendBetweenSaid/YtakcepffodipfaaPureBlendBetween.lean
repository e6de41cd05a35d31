/- BlendBetween: the rate is not below the least nor more than 1250 above the greatest, the count lies between; for every input. -/
import Derived.Test.YtakcepffodipfaaPx29
import Derived.Test.YtakcepffodipfaaPx31
import Derived.Test.YtakcepffodipfaaBlendJoin
namespace Go.Proofs.Ytakcepffodipfaa.PureB
set_option linter.unusedVariables false
set_option linter.unusedSimpArgs false
open Go.RowKit Go.Proofs.Ytakcepffodipfaa.P Go.Proofs.YtakcepffodipfaaW.PrintWords Go.Proofs.YtakcepffodipfaaW.PrintLast Go.Proofs.YtakcepffodipfaaW.PrintMore Go.Proofs.Ytakcepffodipfaa.PlainM
open Go.Proofs.Ytakcepffodipfaa.PureLo (ref_owes_is)
open Go.Proofs.Ytakcepffodipfaa.Pure (mn_is mx_is)
theorem mod_any (a m : Int) (h0 : -9223372036854775808 ≤ a) (h1 : a ≤ 9223372036854775807) (hm : 1 ≤ m) (hm' : m ≤ 1000000) : ∃ t, annuitykeep_Mod.f a m = some t ∧ 0 ≤ t ∧ t < m := by
  unfold annuitykeep_Mod.f
  rw [if_neg (by omega), if_neg (by omega)]
  have b1 : -m < Int.tmod a m := by
    have := Int.lt_tmod_of_pos a (show 0 < m by omega)
    omega
  have b2 : Int.tmod a m < m := Int.tmod_lt_of_pos a (by omega)
  rw [w64 (by omega) (by omega), tmod_nn (by omega)]
  exact ⟨_, rfl, Int.emod_nonneg _ (by omega), Int.emod_lt_of_pos _ (by omega)⟩
theorem tot_append (l m : List S31) : tot (l ++ m) = tot l + tot m := by
  induction l with
  | nil => simp [tot]
  | cons x l ih => rw [List.cons_append, tot, tot, ih]; omega
theorem tot_nn : ∀ l : List S31, (∀ x ∈ l, 0 ≤ (ow x).1) → 0 ≤ tot l := by
  intro l hl
  induction l with
  | nil => exact Int.le_refl _
  | cons x l ih => rw [tot]; have := hl x (by simp); have := ih (fun y hy => hl y (by simp [hy])); omega
/-- What the last step of the law asks. -/
theorem between_end (k : Nat) (hk : 1000 ≤ k) (l : List S31) (hl : l.length ≤ 100) (a1 : Int) (w0 : -9223372036854775808 ≤ a1) (w1 : a1 ≤ 9223372036854775807) (c : (wS l).2.2 = 0) (low high few many : Int)
    (hh : -1 ≤ high ∧ high ≤ 1000000) (b1 : low * (wS l).2.1 ≤ dt (fun x => x.f5) l) (b2 : dt (fun x => x.f5) l ≤ high * (wS l).2.1) (b3 : few * (wS l).2.1 ≤ dt (fun x => x.f12) l) (b4 : dt (fun x => x.f12) l ≤ many * (wS l).2.1) :
    annuitylaw21_BlendBetween.l0 (k + 1) l a1 (rateS l).1 (countS l).1 0 low high few many (wS l).2.1 (l.length : Int) = some true := by
  have g := wS_ok c
  have p := dt_bd (fun x => x.f5) l (fun x hx => (g.bd x hx).1) (fun x hx => ppm_bd x (g.ok x hx))
  have a0 := g.a0
  have cdlo : ∀ N lo : Int, lo * (wS l).2.1 ≤ N → lo ≤ cd N (wS l).2.1 := by
    intro N lo h
    have := (Int.le_ediv_iff_mul_le a0).2 h
    unfold cd
    split <;> omega
  have cdhi : ∀ N hi : Int, N ≤ hi * (wS l).2.1 → cd N (wS l).2.1 ≤ hi := by
    intro N hi h
    have e := Int.emod_add_mul_ediv N (wS l).2.1
    have r0 := Int.emod_nonneg N (show (wS l).2.1 ≠ 0 by omega)
    have q : N / (wS l).2.1 ≤ hi := by
      have := Int.ediv_le_ediv a0 h
      rwa [Int.mul_ediv_cancel _ (by omega)] at this
    unfold cd
    by_cases r : N % (wS l).2.1 > 0
    · rw [if_pos r]
      by_cases t : N / (wS l).2.1 = hi
      · rw [t, Int.mul_comm] at e; omega
      · omega
    · rw [if_neg r]; exact q
  have q := cd_bd _ ppm_bd l c
  have l1 := cdlo _ _ b1
  have h1 := cdhi _ _ b2
  have l2 := cdlo _ _ b3
  have h2 := cdhi _ _ b4
  have lo6 : low ≤ 1000000 := by omega
  have er : (rateS l).1 = stp (cd (dt (fun x => x.f5) l) (wS l).2.1) := by unfold rateS; rw [if_pos c]
  have ec : (countS l).1 = cd (dt (fun x => x.f12) l) (wS l).2.1 := by unfold countS; rw [if_pos c]
  have r1 : ¬ (rateS l).1 < low := by rw [er]; unfold stp; split <;> omega
  have r2 : ¬ (rateS l).1 > high + 1250 := by rw [er]; unfold stp; split <;> omega
  have c1 : ¬ (countS l).1 < few := by rw [ec]; omega
  have c2 : ¬ (countS l).1 > many := by rw [ec]; omega
  obtain ⟨t, ht, _, _⟩ := mod_any a1 87659 w0 w1 (by omega) (by omega)
  obtain ⟨v, hv⟩ := join_both l 9 t
  obtain ⟨j1, _, j3⟩ := hv k hk
  rw [annuitylaw21_BlendBetween.l0, if_neg (by omega), if_pos rfl, if_neg r1, w64 (by omega) (by omega), if_neg r2, if_neg c1, if_neg c2, copy_is l (by omega), ht]
  simp only [obind]
  rw [j1]
  simp only [obind]
  by_cases z : v.2.2.2.2.2.2.2.2.2.2.2.2.2 = 0
  · obtain ⟨_, e1, e2, e3, e4, e5⟩ := j3 z
    rw [if_pos z, if_pos e1, if_pos e2, if_pos e3, if_pos e5, if_pos e4, wakes21 k hk]; rfl
  · rw [if_neg z, wakes21 k hk]; rfl
theorem between_l0 (l : List S31) (hl : l.length ≤ 100) (a1 : Int) (w0 : -9223372036854775808 ≤ a1) (w1 : a1 ≤ 9223372036854775807) (c : (wS l).2.2 = 0) : ∀ (d k j : Nat) (low high few many : Int), j + d = l.length → d + 1010 ≤ k →
    (low ≤ 1099511627776 ∧ 0 ≤ low) → (-1 ≤ high ∧ high ≤ 1000000) → (few ≤ 1099511627776 ∧ 0 ≤ few) → (-1 ≤ many ∧ many ≤ 1000000) →
    low * tot (l.take j) ≤ dt (fun x => x.f5) (l.take j) → dt (fun x => x.f5) (l.take j) ≤ high * tot (l.take j) → few * tot (l.take j) ≤ dt (fun x => x.f12) (l.take j) → dt (fun x => x.f12) (l.take j) ≤ many * tot (l.take j) →
    annuitylaw21_BlendBetween.l0 k l a1 (rateS l).1 (countS l).1 0 low high few many (tot (l.take j)) (j : Int) = some true
  | 0, k, j, low, high, few, many, h, hk, i1, i2, i3, i4, b1, b2, b3, b4 => by
    obtain ⟨k, rfl⟩ : ∃ m, k = m + 1 := ⟨k - 1, by omega⟩
    have g := wS_ok c
    rw [List.take_of_length_le (by omega), ← g.al] at b1 b2 b3 b4 ⊢
    rw [show (j : Int) = (l.length : Int) by omega]
    exact between_end k (by omega) l hl a1 w0 w1 c low high few many i2 b1 b2 b3 b4
  | d + 1, k, j, low, high, few, many, h, hk, i1, i2, i3, i4, b1, b2, b3, b4 => by
    obtain ⟨k, rfl⟩ : ∃ m, k = m + 1 := ⟨k - 1, by omega⟩
    have g := wS_ok c
    have m := rd_mem l j (by omega)
    have o0 := g.ow0 _ m
    have b := g.bd _ m
    have pb := ppm_bd _ (g.ok _ m)
    have cb := count_bd _ (g.ok _ m)
    have tk : l.take (j + 1) = l.take j ++ [rd_T31 l j] := by
      have h1 : l[j]'(by omega) = rd_T31 l j := by unfold rd_T31; simp [List.getD_eq_getElem?_getD, show j < l.length by omega]
      rw [List.take_succ_eq_append_getElem (by omega), h1]
    have t0 := tot_nn (l.take j) (fun x hx => (g.bd x (List.mem_of_mem_take hx)).1)
    have t1 := tot_nn (l.drop (j + 1)) (fun x hx => (g.bd x (List.mem_of_mem_drop hx)).1)
    have ts : tot (l.take (j + 1)) + tot (l.drop (j + 1)) = (wS l).2.1 := by rw [← tot_append, List.take_append_drop, ← g.al]
    have a1' := g.a1
    have e0 : tot (l.take (j + 1)) = tot (l.take j) + (ow (rd_T31 l j)).1 := by rw [tk, tot_append, tot, tot]; omega
    have e5 : dt (fun x => x.f5) (l.take (j + 1)) = dt (fun x => x.f5) (l.take j) + (ow (rd_T31 l j)).1 * (rd_T31 l j).f5 := by rw [tk, dt_append, dt, dt]; omega
    have e12 : dt (fun x => x.f12) (l.take (j + 1)) = dt (fun x => x.f12) (l.take j) + (ow (rd_T31 l j)).1 * (rd_T31 l j).f12 := by rw [tk, dt_append, dt, dt]; omega
    have ih := between_l0 l hl a1 w0 w1 c d k (j + 1)
    rw [annuitylaw21_BlendBetween.l0, if_pos (by omega), if_pos (by omega), ref_owes_is]
    simp only [obind]
    change (if (ow (rd_T31 l j)).2 = 0 then (if (ow (rd_T31 l j)).1 = 0 then _ else _) else _) = _
    rw [if_pos o0]
    rw [e0, e5, e12] at ih
    by_cases z : (ow (rd_T31 l j)).1 = 0
    · rw [if_pos z, up1 j (by omega)]
      rw [z, Int.add_zero, Int.zero_mul, Int.zero_mul, Int.add_zero, Int.add_zero] at ih
      exact ih low high few many (by omega) (by omega) i1 i2 i3 i4 b1 b2 b3 b4
    · rw [if_neg z, up1 j (by omega)]
      have sum : wrap64 (tot (l.take j) + (ow (rd_T31 l j)).1) = tot (l.take j) + (ow (rd_T31 l j)).1 := w64 (by omega) (by omega)
      show annuitylaw21_BlendBetween.l0 k l a1 (rateS l).1 (countS l).1 0 _ _ _ _ (wrap64 (tot (l.take j) + (ow (rd_T31 l j)).1)) _ = _
      rw [sum]
      have lo : ∀ lo p : Int, mn lo p ≤ lo ∧ mn lo p ≤ p := by intro lo p; rw [mn_is]; split <;> omega
      have hi : ∀ hi p : Int, hi ≤ mx hi p ∧ p ≤ mx hi p := by intro hi p; rw [mx_is]; split <;> omega
      have low' : ∀ lo p D : Int, lo * tot (l.take j) ≤ D → mn lo p * (tot (l.take j) + (ow (rd_T31 l j)).1) ≤ D + (ow (rd_T31 l j)).1 * p := by
        intro lo_ p D hD
        have x1 := Int.mul_le_mul_of_nonneg_right (lo lo_ p).1 t0
        have x2 := Int.mul_le_mul_of_nonneg_right (lo lo_ p).2 b.1
        rw [Int.mul_add]
        rw [Int.mul_comm p] at x2
        omega
      have high' : ∀ hi_ p D : Int, D ≤ hi_ * tot (l.take j) → D + (ow (rd_T31 l j)).1 * p ≤ mx hi_ p * (tot (l.take j) + (ow (rd_T31 l j)).1) := by
        intro hi_ p D hD
        have x1 := Int.mul_le_mul_of_nonneg_right (hi hi_ p).1 t0
        have x2 := Int.mul_le_mul_of_nonneg_right (hi hi_ p).2 b.1
        rw [Int.mul_add]
        rw [Int.mul_comm p] at x2
        omega
      refine ih _ _ _ _ (by omega) (by omega) ?_ ?_ ?_ ?_ (low' _ _ _ b1) (high' _ _ _ b2) (low' _ _ _ b3) (high' _ _ _ b4)
      · rw [mn_is]; split <;> omega
      · rw [mx_is]; split <;> omega
      · rw [mn_is]; split <;> omega
      · rw [mx_is]; split <;> omega
theorem BlendBetween : annuitylaw21_BlendBetween.Pure := by
  intro l d hm hy hw w1
  obtain ⟨k, hk⟩ : ∃ k : Nat, 1500 ≤ k := ⟨_, Nat.le_refl _⟩
  have wd := wf64 w1
  refine ⟨k, ?_⟩
  unfold annuitylaw21_BlendBetween.f
  by_cases c : (l.length : Int) > 100
  · rw [if_pos c, wakes21 k (by omega)]; rfl
  rw [if_neg c, copy_is l (by omega)]
  simp only [obind]
  rw [rate_is l k (by omega)]
  simp only [obind]
  rw [count_is l k (by omega)]
  simp only [obind]
  by_cases e : (wS l).2.2 = 0
  · have r2 : (rateS l).2 = 0 := by unfold rateS; rw [if_pos e]
    have c2 : (countS l).2 = 0 := by unfold countS; rw [if_pos e]
    rw [if_pos r2, c2]
    exact between_l0 l (by omega) d wd.1 wd.2 e l.length k 0 _ _ _ _ (by omega) (by omega) (by omega) (by omega) (by omega) (by omega) (by simp [tot, dt]) (by simp [tot, dt]) (by simp [tot, dt]) (by simp [tot, dt])
  · have r : rateS l = (0, (wS l).2.2) := by unfold rateS; rw [if_neg e]
    have c2 : countS l = (0, (wS l).2.2) := by unfold countS; rw [if_neg e]
    rw [r, c2, if_neg e, if_pos rfl, if_pos rfl, if_pos rfl, wakes21 k (by omega)]; rfl
end Go.Proofs.Ytakcepffodipfaa.PureB
namespace Go.Proofs.Ytakcepffodipfaa.Pure
theorem BlendBetween : Go.Proofs.Ytakcepffodipfaa.P.annuitylaw21_BlendBetween.Pure := Go.Proofs.Ytakcepffodipfaa.PureB.BlendBetween
end Go.Proofs.Ytakcepffodipfaa.Pure
