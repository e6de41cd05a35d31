/- Interest goes to the loan with the higher rate first, principal likewise; fees to the one with the lower Id. -/
import Derived.Test.YteemomncbcpdjaaPx20
import Derived.Test.YteemomncbcpdjaaPayOrd
import Derived.Test.YteemomncbcpdjaaPayKeep0
namespace Go.Proofs.Yteemomncbcpdjaa.Pure
set_option linter.unusedVariables false
set_option linter.unusedSimpArgs false
open Go.RowKit Go.Proofs.Yteemomncbcpdjaa.P Go.Proofs.YteemomncbcpdjaaW.PrintWords Go.Proofs.YteemomncbcpdjaaW.PrintLast Go.Proofs.YteemomncbcpdjaaW.PrintMore Go.Proofs.Yteemomncbcpdjaa.PlainM Go.Proofs.Yteemomncbcpdjaa.Plain
/-- What the law looks at, of two open loans. -/
theorem first_ok (l : List S43) (a : Int) (hg : ∀ x ∈ l, gdL x) (ha : 0 ≤ a) (i j : Nat) (hi : i < l.length) (hj : j < l.length) (hi8 : (rn l i).f8 = 0) (hj8 : (rn l j).f8 = 0) :
    (0 ≤ (rn (outL l a) j).f2 ∧ (rn (outL l a) j).f2 ≤ 1000000000000000000 ∧ 0 ≤ (rn l j).f2 ∧ (rn l j).f2 ≤ 1000000000000000000) ∧
    ((rn l i).f5 > (rn l j).f5 → ((rn (outL l a) j).f2 / 1000000 < (rn l j).f2 / 1000000 → ¬ (rn (outL l a) i).f2 ≥ 1000000) ∧ ((rn (outL l a) j).f1 < (rn l j).f1 → ¬ (rn (outL l a) i).f1 > 0)) ∧
    ((rn l i).f0 < (rn l j).f0 → (rn (outL l a) j).f4 < (rn l j).f4 → ¬ (rn (outL l a) i).f4 > 0) := by
  have bi := v_bd hg ha i hi hi8
  have bj := v_bd hg ha j hj hj8
  have gi := gd_bd (hg _ (rn_mem hi))
  have gj := gd_bd (hg _ (rn_mem hj))
  have pi := pdS_is (rn l i) (vF l a i) (vI l a i) (vP l a i)
  have pj := pdS_is (rn l j) (vF l a j) (vI l a j) (vP l a j)
  rw [out_at i hi hi8, out_at j hj hj8]
  unfold pdA
  unfold fee itr prn at bi bj
  refine ⟨?_, ?_, ?_⟩
  · obtain ⟨_, _, h, _⟩ := pj
    rcases h with h | h
    · rw [h]; omega
    · rw [h.1]; omega
  · intro h5
    have hR : drR l i j = true := by unfold drR; rw [decide_eq_true_eq]; exact .inl h5
    refine ⟨fun h1 h2 => ?_, fun h1 h2 => ?_⟩
    · have hne : vI l a j ≠ 0 := by
        intro e
        obtain ⟨_, _, h, _⟩ := pj
        rcases h with h | h
        · rw [h, e] at h1; omega
        · rw [h.1] at h1; have := h.2; rw [e] at this; omega
      have := dear_I hg ha i j (plD_mem.2 ⟨hi, hi8⟩) (plD_mem.2 ⟨hj, hj8⟩) hR hne
      unfold itr at this
      obtain ⟨_, _, h, _⟩ := pi
      rcases h with h | h
      · rw [h, this] at h2; omega
      · rw [h.1] at h2; omega
    · have hne : vP l a j ≠ 0 := by intro e; rw [pj.2.1, e] at h1; omega
      have := dear_P hg ha i j (plD_mem.2 ⟨hi, hi8⟩) (plD_mem.2 ⟨hj, hj8⟩) hR hne
      unfold prn at this
      rw [pi.2.1, this] at h2; omega
  · intro h0 h1 h2
    have hR : idR l i j = true := by unfold idR; rw [decide_eq_true_eq]; exact .inl h0
    have hne : vF l a j ≠ 0 := by intro e; rw [pj.1, e] at h1; omega
    have := id_F hg ha i j (plI_mem.2 ⟨hi, hi8⟩) (plI_mem.2 ⟨hj, hj8⟩) hR hne
    unfold fee at this
    rw [pi.1, this] at h2; omega
theorem first_l1 (l : List S43) (a : Int) (hg : ∀ x ∈ l, gdL x) (ha : 0 ≤ a) (hl : l.length ≤ 16) (i : Nat) (hi : i < l.length) (K : Nat) (H0 : ∀ k, K ≤ k → annuitylaw20_PayFirst.l0 k l (outL l a) ((i + 1 : Nat) : Int) = some true) :
    ∀ (m j k : Nat), j + m = l.length → K + 2 * m + 2 ≤ k → annuitylaw20_PayFirst.l1 k l (outL l a) (i : Int) (j : Int) = some true := by
  intro m
  induction m with
  | zero =>
    intro j k hj hk
    obtain ⟨k, rfl⟩ : ∃ q, k = q + 1 := ⟨k - 1, by omega⟩
    simp only [annuitylaw20_PayFirst.l1]
    rw [if_neg (by omega), w64 (by omega) (by omega), show ((i : Int) + 1) = ((i + 1 : Nat) : Int) by omega]
    exact H0 k (by omega)
  | succ m ih =>
    intro j k hj hk
    obtain ⟨k, rfl⟩ : ∃ q, k = q + 1 := ⟨k - 1, by omega⟩
    have hjl : j < l.length := by omega
    have ho := outL_len l a
    have e1 : wrap64 ((j : Int) + 1) = ((j + 1 : Nat) : Int) := by rw [w64 (by omega) (by omega)]; omega
    have nx : annuitylaw20_PayFirst.l1 k l (outL l a) (i : Int) ((j + 1 : Nat) : Int) = some true := ih (j + 1) k (by omega) (by omega)
    simp only [annuitylaw20_PayFirst.l1]
    rw [if_pos (by omega), if_pos (by omega), if_pos (by omega), e1, nx]
    by_cases c1 : (rd_T43 l (i : Int)).f8 = 0
    case neg => rw [if_neg c1]
    rw [if_pos c1, if_pos (by omega)]
    by_cases c2 : (rd_T43 l (j : Int)).f8 = 0
    case neg => rw [if_neg c2]
    rw [if_pos c2]
    have hfo := first_ok l a hg ha i j hi hjl c1 c2
    unfold rn at hfo
    obtain ⟨⟨b1, b2, b3, b4⟩, h5, h0⟩ := hfo
    have j2 : annuitylaw20_PayFirst.j2 k l (outL l a) (i : Int) (j : Int) = some true := by
      obtain ⟨k, rfl⟩ : ∃ q, k = q + 1 := ⟨k - 1, by omega⟩
      have nx2 : annuitylaw20_PayFirst.l1 k l (outL l a) (i : Int) ((j + 1 : Nat) : Int) = some true := ih (j + 1) k (by omega) (by omega)
      simp only [annuitylaw20_PayFirst.j2]
      rw [if_pos (by omega), if_pos (by omega), if_pos (by omega), if_pos (by omega), e1, nx2]
      by_cases d1 : (rd_T43 l (i : Int)).f0 < (rd_T43 l (j : Int)).f0
      case neg => rw [if_neg d1]
      rw [if_pos d1, if_pos (by omega)]
      by_cases d2 : (rd_T43 (outL l a) (j : Int)).f4 < (rd_T43 l (j : Int)).f4
      case neg => rw [if_neg d2]
      rw [if_pos d2, if_pos (by omega), if_neg (h0 d1 d2)]
    rw [j2]
    by_cases c3 : (rd_T43 l (i : Int)).f5 > (rd_T43 l (j : Int)).f5
    case neg => rw [if_neg c3]
    rw [if_pos c3, if_pos (by omega)]
    have t1 : wrap64 (Int.tdiv (rd_T43 (outL l a) (j : Int)).f2 1000000) = (rd_T43 (outL l a) (j : Int)).f2 / 1000000 := by
      rw [Int.tdiv_eq_ediv_of_nonneg b1]
      exact w64 (by omega) (by omega)
    have t2 : wrap64 (Int.tdiv (rd_T43 l (j : Int)).f2 1000000) = (rd_T43 l (j : Int)).f2 / 1000000 := by
      rw [Int.tdiv_eq_ediv_of_nonneg b3]
      exact w64 (by omega) (by omega)
    rw [t1, t2]
    obtain ⟨h5a, h5b⟩ := h5 c3
    have pr : (if (rd_T43 (outL l a) (j : Int)).f1 < (rd_T43 l (j : Int)).f1 then (if (rd_T43 (outL l a) (i : Int)).f1 > 0 then none else some true) else some true) = some true := by
      by_cases d : (rd_T43 (outL l a) (j : Int)).f1 < (rd_T43 l (j : Int)).f1
      · rw [if_pos d, if_neg (h5b d)]
      · rw [if_neg d]
    by_cases c4 : (rd_T43 (outL l a) (j : Int)).f2 / 1000000 < (rd_T43 l (j : Int)).f2 / 1000000
    · rw [if_pos c4, if_pos (by omega), if_neg (h5a c4)]
      exact pr
    · rw [if_neg c4]
      rw [if_pos (show (i : Int) < ((outL l a).length : Int) by omega)]
      exact pr
theorem first_l0 (l : List S43) (a : Int) (hg : ∀ x ∈ l, gdL x) (ha : 0 ≤ a) (hl : l.length ≤ 16) : ∀ (m i k : Nat), i + m = l.length → 1300 + m * 40 ≤ k → annuitylaw20_PayFirst.l0 k l (outL l a) (i : Int) = some true := by
  intro m
  induction m with
  | zero =>
    intro i k hi hk
    obtain ⟨k, rfl⟩ : ∃ q, k = q + 1 := ⟨k - 1, by omega⟩
    simp only [annuitylaw20_PayFirst.l0]
    rw [if_neg (by omega), wakes20 k (by omega)]; rfl
  | succ m ih =>
    intro i k hi hk
    obtain ⟨k, rfl⟩ : ∃ q, k = q + 1 := ⟨k - 1, by omega⟩
    simp only [annuitylaw20_PayFirst.l0]
    rw [if_pos (by omega), show (0 : Int) = ((0 : Nat) : Int) from rfl]
    exact first_l1 l a hg ha hl i (by omega) (1300 + m * 40) (fun k hk => ih (i + 1) k (by omega) hk) l.length 0 k (by omega) (by omega)
theorem PayFirst : annuitylaw20_PayFirst.Pure := by
  intro l a hm _ _ _
  obtain ⟨k, hk⟩ : ∃ k : Nat, 3000 ≤ k := ⟨3000, by omega⟩
  refine ⟨k, ?_⟩
  unfold annuitylaw20_PayFirst.f
  by_cases c : (l.length : Int) > 16
  · rw [if_pos c, wakes20 k (by omega)]; rfl
  rw [if_neg c, copy_is l (by omega)]
  simp only [obind]
  rw [pay_All_is l a (by omega) k (by omega)]
  simp only [obind]
  unfold payR
  by_cases n : noPay l a = true
  · rw [if_pos n, if_neg (by decide), if_pos rfl, wakes20 k (by omega)]; rfl
  rw [if_neg n, if_pos rfl, if_pos (show ((outL l a).length : Int) = (l.length : Int) by rw [outL_len])]
  unfold noPay at n
  simp only [decide_eq_true_eq] at n
  exact first_l0 l a (badL_all (by simpa using fun h => n (.inl h))) (by have := fun h => n (.inr (.inr (.inl h))); omega) (by omega) l.length 0 k (by omega) (by omega)
end Go.Proofs.Yteemomncbcpdjaa.Pure
