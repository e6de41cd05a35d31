/- BillAhead: what was paid ahead covers a new bill as far as it goes; covered wholly, it is so on its first day; all others stay; for every input. -/
import Derived.Test.YtibjbgfphhmogaaBillMore
import Derived.Test.YtibjbgfphhmogaaPx21
namespace Go.Proofs.Ytibjbgfphhmogaa.Pure
set_option linter.unusedVariables false
open Go.RowKit Go.Proofs.Ytibjbgfphhmogaa.P Go.Proofs.YtibjbgfphhmogaaW.PrintWords Go.Proofs.YtibjbgfphhmogaaW.PrintLast Go.Proofs.YtibjbgfphhmogaaW.PrintMore Go.Proofs.Ytibjbgfphhmogaa.Plain
theorem issS_ok (l : List S45) (m a b p : Int) (ids : List Int) (hg : goodB l = true) (h0 : 0 ≤ m) (h1 : m < 2880) (hm : l.length = 0 ∨ lastM l < m) (ha : moneyP a) (hb : moneyP b) :
    issS l m a b p ids = (l ++ [⟨m, a, a - mn a b, if a - mn a b = 0 then st m.toNat else -1, p, ids⟩], b - mn a b, 0) := by
  unfold issS
  rw [if_neg (by simp [hg]), if_neg]
  rintro (h | h | ⟨h, h'⟩ | h | h)
  · omega
  · omega
  · omega
  · exact h ha
  · exact h hb
theorem ahead_j0 (l : List S45) (k : Nat) (gap m n0 n1 : Int) (hl : l.length ≤ 400) (hf : ∀ x ∈ l, x.f5.length ≤ 100) (hk : 9020 ≤ k) (hg : goodB l = true) (g0 : 0 ≤ gap) (g1 : gap ≤ 255)
    (m0 : 0 ≤ m) (m1 : m ≤ 2880) (hm : l.length = 0 ∨ lastM l < m) (a0 : 0 ≤ n0) (a1 : n0 ≤ 4294967295) (b0 : 0 ≤ n1) (b1 : n1 ≤ 4294967295) :
    annuitylaw19_BillAhead.j0 (k + 1) l gap m n0 n1 = some true := by
  have W := wakes19 k hk
  simp only [annuitylaw19_BillAhead.j0]
  rw [w64 (e := gap) (by omega) (by omega), w64 (e := m + gap) (by omega) (by omega)]
  by_cases c : m + gap > 2879
  · rw [if_pos c, W]; rfl
  rw [if_neg c]
  by_cases c2 : (l.length : Int) > 390
  · rw [if_pos c2, W]; rfl
  rw [if_neg c2, copy_is l k (by omega) hf (by omega)]
  simp only [obind]
  have ma : moneyP n0 := by unfold moneyP; omega
  have mb : moneyP n1 := by unfold moneyP; omega
  have mm : 0 ≤ mn n0 n1 ∧ mn n0 n1 ≤ n0 ∧ mn n0 n1 ≤ n1 := by unfold mn; split <;> omega
  obtain ⟨M, hM⟩ : ∃ M, M = m + gap := ⟨_, rfl⟩
  rw [w64 (e := n0) (by omega) (by omega), w64 (e := n1) (by omega) (by omega), ← hM, issue_is l k M n0 n1 2 [4, 5] (by omega) hf (by simp) (by omega), issS_ok l M n0 n1 2 [4, 5] hg (by omega) (by omega) (by omega) ma mb]
  simp only [obind, if_true]
  obtain ⟨x, hx⟩ : ∃ x : S45, x = ⟨M, n0, n0 - mn n0 n1, if n0 - mn n0 n1 = 0 then st M.toNat else -1, 2, [4, 5]⟩ := ⟨_, rfl⟩
  rw [← hx]
  have e0 : x.f0 = M := by rw [hx]
  have e1 : x.f1 = n0 := by rw [hx]
  have e2 : x.f2 = n0 - mn n0 n1 := by rw [hx]
  have e3 : x.f3 = if n0 - mn n0 n1 = 0 then st M.toNat else -1 := by rw [hx]
  have e4 : x.f4 = 2 := by rw [hx]
  have e5 : x.f5 = [4, 5] := by rw [hx]
  have hs := st_nn M.toNat
  have hs2 : st M.toNat ≤ 87658 := by
    have h1 := st_smono (a := M.toNat) (b := 2880) (by omega)
    rw [st_last] at h1; omega
  have hlt : ∀ y ∈ l, y.f0 < x.f0 := by
    rw [e0]
    unfold goodB at hg
    rw [Bool.and_eq_true] at hg
    refine gdB_lt l (-1) M hg.2 ?_
    rcases hm with h | h
    · exact .inl h
    · by_cases z : l.length = 0
      · exact .inl z
      · right; unfold lastM at h; rw [if_neg z] at h; omega
  have hgx : goodB (l ++ [x]) = true := by
    refine goodB_app x l hg (by omega) ⟨?_, by rw [e0]; omega, by rw [e1]; exact ma, by rw [e2]; omega, by rw [e2, e1]; omega, ?_⟩
    · rw [e0]; unfold lastM at hm ⊢; split
      · omega
      · rename_i z; rw [if_neg z] at hm; omega
    · rw [e2, e3]
      by_cases z : n0 - mn n0 n1 = 0
      · rw [if_pos z]; exact .inl ⟨z, hs, hs2⟩
      · rw [if_neg z]; exact .inr ⟨by omega, rfl⟩
  have hsm : ∀ y ∈ l ++ [x], y.f5.length ≤ 100 := fun y hy => by
    rcases List.mem_append.1 hy with h | h
    · exact hf y h
    · obtain rfl := List.mem_singleton.1 h; rw [e5]; simp
  have hlen : ((l ++ [x]).length : Int) = (l.length : Int) + 1 := by simp
  rw [hlen, w64 (e := (l.length : Int) + 1) (by omega) (by omega), if_pos rfl, if_pos (by omega), if_pos (by omega), Int.toNat_natCast, List.take_left, bills_same l k (by omega) hf (by omega)]
  simp only [obind, if_true]
  rw [rd_app, if_pos (by omega), w64 (e := n1 - (n1 - mn n0 n1)) (by omega) (by omega), show n1 - (n1 - mn n0 n1) = mn n0 n1 by omega, if_pos rfl, w64 (e := n0 - mn n0 n1) (by omega) (by omega), if_pos e2, if_pos e0, if_pos e4, e5, ints_same [4, 5] k (by simp) (by omega)]
  simp only [obind, if_true]
  have F := find_is (l ++ [x]) k x.f0 (by simp; omega) hsm (by omega)
  rw [find_app l x hgx hlt, e0] at F
  rw [F]
  simp only [obind, if_true]
  rw [e0, e5, bill_same _ _ _ _ _ _ k (by simp) (by omega)]
  simp only [obind, if_true]
  have z : (decide (x.f3 ≥ 0) == (x.f2 == 0)) = true := by
    rw [e2, e3]
    by_cases z : n0 - mn n0 n1 = 0
    · rw [if_pos z, z]; simp [hs]
    · rw [if_neg z, beq_eq_false_iff_ne.mpr z]; rfl
  rw [if_pos z, W]
  rfl
theorem BillAhead : annuitylaw19_BillAhead.Pure := by
  intro l n0 n1 gap _ _ _ w0 w1 w2
  obtain ⟨k, hk⟩ : ∃ k : Nat, 10000 ≤ k := ⟨_, Nat.le_refl _⟩
  refine ⟨k, ?_⟩
  have r0 := wfu32 w0
  have r1 := wfu32 w1
  have r2 := wfu8 w2
  unfold annuitylaw19_BillAhead.f
  rcases large_or l k (by omega) with h | ⟨h, hs⟩
  · rw [h]
    simp only [obind, if_true]
    rw [wakes19 k (by omega)]
    rfl
  obtain ⟨hl, hf⟩ := hs
  rw [h]
  simp only [obind]
  rw [if_neg (by simp), rgood_is l k (by omega)]
  simp only [obind]
  cases hg : goodB l with
  | false => rw [if_neg (by simp), wakes19 k (by omega)]; rfl
  | true =>
    rw [if_pos rfl]
    obtain ⟨k, rfl⟩ : ∃ q, k = q + 1 := ⟨k - 1, by omega⟩
    by_cases c : (l.length : Int) > 0
    · rw [if_pos c, w64 (e := (l.length : Int) - 1) (by omega) (by omega), if_pos (by omega), if_pos (by omega)]
      have gm := good_mem hg _ (rdT_mem l (l.length - 1) (by omega))
      have e : (((l.length - 1 : Nat)) : Int) = (l.length : Int) - 1 := by omega
      rw [e] at gm
      rw [w64 (e := (rd_T45 l ((l.length : Int) - 1)).f0 + 1) (by omega) (by omega)]
      refine ahead_j0 l k gap _ n0 n1 hl hf (by omega) hg r2.1 r2.2 (by omega) (by omega) (.inr ?_) r0.1 r0.2 r1.1 r1.2
      unfold lastM
      rw [if_neg (by omega)]
      omega
    · rw [if_neg c]
      exact ahead_j0 l k gap 0 n0 n1 hl hf (by omega) hg r2.1 r2.2 (by omega) (by omega) (.inl (by omega)) r0.1 r0.2 r1.1 r1.2
end Go.Proofs.Ytibjbgfphhmogaa.Pure
