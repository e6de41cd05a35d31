/- BillAll: what is credited is just what is less left, and what is left over; while something is left over, nothing is left; in two parts it is the same; for every input. -/
import Derived.Test.YtibjbgfphhmogaaBillMore
import Derived.Test.YtibjbgfphhmogaaPx19
namespace Go.Proofs.Ytibjbgfphhmogaa.Pure
set_option linter.unusedVariables false
open Go.RowKit Go.Proofs.Ytibjbgfphhmogaa.P Go.Proofs.YtibjbgfphhmogaaW.PrintWords Go.Proofs.YtibjbgfphhmogaaW.PrintLast Go.Proofs.YtibjbgfphhmogaaW.PrintMore Go.Proofs.Ytibjbgfphhmogaa.Plain
theorem all_l0 (day : Int) (l A : List S45) (K n0 n1 : Int) (hm : monB l) (hl : l.length ≤ 400) (hA : A.length = l.length) (hg : goodB A = true) (a0 : 0 ≤ n0) (a1 : n0 ≤ 4294967295) (b0 : 0 ≤ n1) (b1 : n1 ≤ 4294967295) :
    ∀ (d k j : Nat) (less a : Int), j + d = l.length → 2 * d + 9100 < k → creS day (l.drop j) a = (A.drop j, K) → 0 ≤ a → 0 ≤ less → less + a = n0 + n1 → (∀ i : Nat, i + 1 = j → 0 < (rd_T45 A (i : Int)).f2 → a = 0) →
    annuitylaw19_BillAll.l0 k l A K less (j : Int) n0 n1 = some true := by
  intro d
  induction d with
  | zero =>
    intro k j less a hj hk H h0 h1 hs hp
    obtain ⟨k, rfl⟩ : ∃ m, k = m + 1 := ⟨k - 1, by omega⟩
    rw [List.drop_of_length_le (by omega), List.drop_of_length_le (by omega)] at H
    have e : a = K := congrArg Prod.snd H
    simp only [annuitylaw19_BillAll.l0]
    rw [if_neg (by omega), w64 (e := less + K) (by omega) (by omega), w64 (e := n0) (by omega) (by omega), w64 (e := n1) (by omega) (by omega), w64 (e := n0 + n1) (by omega) (by omega), if_pos (by omega), rgood_is A k (by omega), hg]
    simp only [obind, if_true]
    rw [wakes19 k (by omega)]
    rfl
  | succ d ih =>
    intro k j less a hj hk H h0 h1 hs hp
    obtain ⟨k, rfl⟩ : ∃ m, k = m + 1 + 1 := ⟨k - 2, by omega⟩
    obtain ⟨a', H', p0, p1, p2, p3, p4, p5⟩ := creS_at day l A K hm j a (by omega) hA h0 (by omega) H
    obtain ⟨x, hx⟩ : ∃ x, x = rd_T45 l (j : Int) := ⟨_, rfl⟩
    obtain ⟨y, hy⟩ : ∃ y, y = rd_T45 A (j : Int) := ⟨_, rfl⟩
    rw [← hx, ← hy] at p1
    rw [← hx, ← hy] at p2
    rw [← hy] at p3
    rw [← hx] at p4
    rw [← hy] at p5
    have T : annuitylaw19_BillAll.j1 (k + 1) l A K less (j : Int) false n0 n1 = some true := by
      simp only [annuitylaw19_BillAll.j1]
      rw [if_neg (by simp), if_pos (by omega), if_pos (by omega), if_pos (by omega), ← hx, ← hy, w64 (e := x.f2 - y.f2) (by omega) (by omega), w64 (e := less + (x.f2 - y.f2)) (by omega) (by omega), w64 (e := (j : Int) + 1) (by omega) (by omega), show (j : Int) + 1 = ((j + 1 : Nat) : Int) by omega]
      refine ih k (j + 1) _ a' (by omega) (by omega) H' p0 (by omega) (by omega) (fun i hi h => ?_)
      obtain rfl : i = j := by omega
      rw [← hy] at h
      exact (p5 h).1
    -- what follows the first comparison
    have U : (if (j : Int) > 0 then (if 0 ≤ (wrap64 ((j : Int) - 1)) then (if (wrap64 ((j : Int) - 1)) < (A.length : Int) then (if ((rd_T45 A (wrap64 ((j : Int) - 1))).f2) > 0 then (annuitylaw19_BillAll.j1 (k + 1) l A K less (j : Int) (y.f2 != x.f2) n0 n1) else (annuitylaw19_BillAll.j1 (k + 1) l A K less (j : Int) false n0 n1)) else (none)) else (none)) else (annuitylaw19_BillAll.j1 (k + 1) l A K less (j : Int) false n0 n1)) = some true := by
      by_cases c : (j : Int) > 0
      · rw [if_pos c, w64 (e := (j : Int) - 1) (by omega) (by omega), if_pos (by omega), if_pos (by omega)]
        by_cases c2 : (rd_T45 A ((j : Int) - 1)).f2 > 0
        · have z : a = 0 := hp (j - 1) (by omega) (by rw [show ((j - 1 : Nat) : Int) = (j : Int) - 1 by omega]; exact c2)
          rw [if_pos c2, show (y.f2 != x.f2) = false by rw [show y.f2 = x.f2 by omega]; simp]
          exact T
        · rw [if_neg c2]; exact T
      · rw [if_neg c]; exact T
    simp only [annuitylaw19_BillAll.l0]
    rw [← hx, ← hy, if_pos (by omega)]
    by_cases ck : K > 0
    · have z : y.f2 = 0 := by
        by_cases z : 0 < y.f2
        · have := (p5 z).2; omega
        · omega
      rw [if_pos ck, if_pos (by omega), if_pos z, if_pos (by omega), if_neg (by omega)]
      exact U
    · rw [if_neg ck, if_pos (by omega), if_pos (by omega), if_neg (by omega)]
      exact U
theorem credS_ok (l : List S45) (a day : Int) (hg : goodB l = true) (ha : moneyP a) (d0 : 0 ≤ day) (d1 : day ≤ 87658) : credS l a day = ((creS day l a).1, (creS day l a).2, 0) := by
  unfold credS
  rw [if_neg (by simp [hg]), if_neg]
  rintro (h | h)
  · exact h ha
  · exact h ⟨d0, d1⟩
theorem BillAll : annuitylaw19_BillAll.Pure := by
  intro l n0 n1 dy _ _ _ w0 w1 _
  obtain ⟨k, hk⟩ : ∃ k : Nat, 20000 ≤ k := ⟨_, Nat.le_refl _⟩
  refine ⟨k, ?_⟩
  have r0 := wfu32 w0
  have r1 := wfu32 w1
  unfold annuitylaw19_BillAll.f
  rcases large_or l k (by omega) with h | ⟨h, hs⟩
  · rw [h]
    simp only [obind, if_true]
    rw [wakes19 k (by omega)]
    rfl
  obtain ⟨hl, hf⟩ := hs
  rw [h]
  simp only [obind]
  rw [if_neg (by simp), rgood_is l k (by omega)]
  simp only [obind]
  cases hg : goodB l with
  | false => rw [if_neg (by simp), wakes19 k (by omega)]; rfl
  | true =>
    obtain ⟨day, hd, d0, d1⟩ := mod_is dy 87659 (by omega) (by omega)
    have m0 : moneyP n0 := by unfold moneyP; omega
    have m1 : moneyP n1 := by unfold moneyP; omega
    have m2 : moneyP (n0 + n1) := by unfold moneyP; omega
    have mb := monB_good hg
    rw [if_pos rfl, hd]
    simp only [obind]
    rw [copy_is l k (by omega) hf (by omega), w64 (e := n0) (by omega) (by omega), w64 (e := n1) (by omega) (by omega), w64 (e := n0 + n1) (by omega) (by omega)]
    simp only [obind]
    rw [credit_is l k (n0 + n1) day (by omega) hf (by omega), credS_ok l (n0 + n1) day hg m2 d0 (by omega)]
    simp only [obind]
    rw [credit_is l k n0 day (by omega) hf (by omega), credS_ok l n0 day hg m0 d0 (by omega)]
    simp only [obind, if_true]
    have s0 := creS_small day l n0
    have s2 := creS_small day l (n0 + n1)
    have g0 := creS_goodB day d0 (by omega) l n0 (by omega) (by omega) hg
    have g2 := creS_goodB day d0 (by omega) l (n0 + n1) (by omega) (by omega) hg
    have AD := creS_add day l n0 n1 mb (by omega) (by omega) (by omega)
    rw [s2.1, if_pos rfl, credit_is _ k n1 day (by rw [s0.1]; omega) (s0.2 hf) (by omega), credS_ok _ n1 day g0 m1 d0 (by omega)]
    simp only [obind, if_true]
    have e1 : (creS day (creS day l n0).1 n1).1 = (creS day l (n0 + n1)).1 := by rw [AD]
    have e2 : (creS day l n0).2 + (creS day (creS day l n0).1 n1).2 = (creS day l (n0 + n1)).2 := by rw [AD]
    have q0 := creS_left day l n0 mb (by omega) (by omega)
    have q1 := creS_left day l (n0 + n1) mb (by omega) (by omega)
    rw [e1, bills_same _ k (by rw [s2.1]; omega) (s2.2 hf) (by omega)]
    simp only [obind, if_true]
    rw [e2, w64 (e := (creS day l (n0 + n1)).2) (by omega) (by omega), if_pos rfl]
    have L := all_l0 day l (creS day l (n0 + n1)).1 (creS day l (n0 + n1)).2 n0 n1 mb hl s2.1 g2 r0.1 r0.2 r1.1 r1.2 l.length k 0 0 (n0 + n1) (by omega) (by omega) (by rw [List.drop_zero, List.drop_zero]) (by omega) (by omega) (by omega) (fun i hi => by omega)
    exact L
end Go.Proofs.Ytibjbgfphhmogaa.Pure
