/- ShareFull: what is filled and what is left are together the total; no room is more than full; one behind another one gets something just if that is full; for every input. -/
import Derived.Test.YtpbonoecjlafcaaPx11
import Derived.Test.YtpbonoecjlafcaaShareEv
namespace Go.Proofs.Ytpbonoecjlafcaa.Pure
set_option linter.unusedVariables false
open Go.RowKit Go.Proofs.Ytpbonoecjlafcaa.P Go.Proofs.YtpbonoecjlafcaaW.PrintWords Go.Proofs.YtpbonoecjlafcaaW.PrintLast Go.Proofs.YtpbonoecjlafcaaW.PrintMore Go.Proofs.Ytpbonoecjlafcaa.PlainM
theorem fillS_rest : ∀ (l : List Int) (t : Int), (∀ x ∈ l, gdm x) → gdm t → 0 ≤ (fillS l t).2 ∧ (fillS l t).2 ≤ t := by
  intro l
  induction l with
  | nil => intro t _ ht; unfold gdm at ht; simp only [fillS]; omega
  | cons a l ih =>
    intro t hg ht
    have ha := hg a (List.mem_cons_self ..)
    obtain ⟨m1, m2⟩ := mn_gdm ha ht
    obtain ⟨h1, h2⟩ := ih (t - mn a t) (fun x hx => hg x (List.mem_cons_of_mem _ hx)) m2
    unfold gdm at m1 m2
    simp only [fillS]
    omega
theorem rd_of_drop {a : List Int} {j : Nat} {x : Int} {r : List Int} (h : a.drop j = x :: r) : rd a j = x ∧ a.drop (j + 1) = r := by
  have hj : j < a.length := by
    by_cases c : j < a.length
    · exact c
    · rw [List.drop_of_length_le (by omega)] at h; cases h
  rw [rd_drop a j hj] at h
  injection h with h1 h2
  exact ⟨h1, h2⟩
theorem full_l0 (t : Int) (l a : List Int) (r : Int) (hl : l.length ≤ 1000) (hg : ∀ x ∈ l, gdm x) (ht : gdm t) (hla : a.length = l.length) (hr0 : 0 ≤ r) (hrt : r ≤ t) :
    ∀ (d k j : Nat) (u all : Int), j + d = l.length → d + 3000 < k → gdm u → u ≤ t → a.drop j = (fillS (l.drop j) u).1 → r = (fillS (l.drop j) u).2 → all = r + (t - u) →
      (0 < j → 0 < u → rd a ((j : Int) - 1) = rd l ((j : Int) - 1)) → annuitylaw02_ShareFull.l0 k t l a r all (j : Int) = some true := by
  intro d
  induction d with
  | zero =>
    intro k j u all hj hk hu hut ha hr hall hp
    obtain ⟨k, rfl⟩ : ∃ m, k = m + 1 := ⟨k - 1, by omega⟩
    rw [List.drop_of_length_le (by omega)] at hr
    simp only [fillS] at hr
    simp only [annuitylaw02_ShareFull.l0]
    rw [if_neg (by omega), if_pos (by omega), if_pos (by omega), wakes02 k (by omega)]
    rfl
  | succ d ih =>
    intro k j u all hj hk hu hut ha hr hall hp
    obtain ⟨k, rfl⟩ : ∃ m, k = m + 1 := ⟨k - 1, by omega⟩
    have hx := hg _ (rd_mem l j (by omega))
    have hd := rd_drop l j (by omega)
    obtain ⟨m1, m2⟩ := mn_gdm hx hu
    have hg2 : ∀ x ∈ l.drop (j + 1), gdm x := fun x h => hg x (List.mem_of_mem_drop h)
    have rest := fillS_rest (l.drop (j + 1)) _ hg2 m2
    rw [hd] at ha hr
    simp only [fillS] at ha hr
    obtain ⟨e1, e2⟩ := rd_of_drop ha
    have mv := mnv (rd l j) u
    have hx' := hx; have hu' := hu; have m1' := m1; have m2' := m2; have ht' := ht
    unfold gdm at hx' hu' m1' m2' ht'
    have N := ih k (j + 1) (u - mn (rd l j) u) (all + mn (rd l j) u) (by omega) (by omega) m2 (by omega) e2 hr (by omega) (fun _ h => by
      rw [show ((j + 1 : Nat) : Int) - 1 = (j : Int) by omega, e1, mv]
      rw [mv] at h
      by_cases c : rd l j ≤ u
      · rw [if_pos c]
      · rw [if_neg c] at h; omega)
    rw [show ((j + 1 : Nat) : Int) = (j : Int) + 1 by omega] at N
    simp only [annuitylaw02_ShareFull.l0]
    rw [if_pos (by omega), if_pos (by omega), e1, if_neg (by omega), if_pos (by omega), if_neg (by rw [mv]; split <;> omega), w64 (e := (j : Int) + 1) (by omega) (by omega), w64 (e := all + mn (rd l j) u) (by omega) (by omega)]
    have T : (if r > 0 then (if mn (rd l j) u = rd l j then annuitylaw02_ShareFull.l0 k t l a r (all + mn (rd l j) u) ((j : Int) + 1) else none) else annuitylaw02_ShareFull.l0 k t l a r (all + mn (rd l j) u) ((j : Int) + 1)) = some true := by
      by_cases c : r > 0
      · have E : mn (rd l j) u = rd l j := by
          rw [mv] at rest ⊢
          by_cases c2 : rd l j ≤ u
          · rw [if_pos c2]
          · rw [if_neg c2] at rest
            rw [mv, if_neg c2] at hr
            omega
        rw [if_pos c, if_pos E]
        exact N
      · rw [if_neg c]; exact N
    by_cases c0 : (j : Int) > 0
    · rw [if_pos c0]
      by_cases c1 : mn (rd l j) u > 0
      · have hu0 : 0 < u := by rw [mv] at c1; split at c1 <;> omega
        rw [if_pos c1, w64 (e := (j : Int) - 1) (by omega) (by omega), if_pos (by omega), if_pos (by omega), if_pos (by omega), if_pos (hp (by omega) hu0)]
        exact T
      · rw [if_neg c1]; exact T
    · rw [if_neg c0]; exact T
theorem ShareFull : annuitylaw02_ShareFull.Pure := by
  intro t l _ _ _ _
  obtain ⟨k, hk⟩ : ∃ k : Nat, 6000 ≤ k := ⟨_, Nat.le_refl _⟩
  refine ⟨k, ?_⟩
  unfold annuitylaw02_ShareFull.f
  by_cases c : (l.length : Int) > 1200
  · rw [if_pos c, wakes02 k (by omega)]; rfl
  rw [if_neg c]
  simp only [obind, List.nil_append, List.length_nil]
  rw [if_pos (by omega), fill_is t l k (by omega) (by omega)]
  simp only [obind]
  by_cases g : gdm t ∧ l.length ≤ 1000 ∧ ∀ x ∈ l, gdm x
  · have e : fillF t l = ((fillS l t).1, (fillS l t).2, 0) := by unfold fillF; rw [if_pos g]
    have rest := fillS_rest l t g.2.2 g.1
    rw [e]
    simp only [if_true]
    rw [fillS_len, if_pos rfl]
    have := full_l0 t l (fillS l t).1 (fillS l t).2 g.2.1 g.2.2 g.1 (fillS_len l t) rest.1 rest.2 l.length k 0 t (fillS l t).2 (by omega) (by omega) g.1 (by omega) (by simp) (by simp) (by omega) (fun h => absurd h (by omega))
    exact this
  · have e : fillF t l = ([], 0, 1) := by unfold fillF; rw [if_neg g]
    rw [e]
    simp only [List.length_nil]
    rw [if_neg (by omega), if_pos (by omega), if_pos trivial, wakes02 k (by omega)]
    rfl
end Go.Proofs.Ytpbonoecjlafcaa.Pure
