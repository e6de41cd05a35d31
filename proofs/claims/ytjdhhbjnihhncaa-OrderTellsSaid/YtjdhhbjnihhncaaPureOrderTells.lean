/- OrderTells in plain words: what the program tells is what the reference tells. -/
import Derived.Test.YtjdhhbjnihhncaaOrdEv
import Derived.Test.YtjdhhbjnihhncaaPx13
namespace Go.Proofs.Ytjdhhbjnihhncaa.Pure
open Go.RowKit Go.Proofs.Ytjdhhbjnihhncaa.P Go.Proofs.YtjdhhbjnihhncaaW.PrintWords Go.Proofs.YtjdhhbjnihhncaaW.PrintLast Go.Proofs.Ytjdhhbjnihhncaa.Ord
set_option linter.unusedVariables false
theorem tells_go (l : List S26) (hl : l.length ≤ 120) (key : Int) (x : S26) (K : Nat) (hK : 700 ≤ K) : ∀ (d : Nat) (i : Nat) (k : Nat), l.length = i + d → K + d < k →
    annuitylaw23_OrderTells.l0 k l key l (i : Int) x.f0 x.f1 x.f2 x.f3 x.f4 x.f5 x.f6 x.f7 x.f8 x.f9 x.f10 = some true := by
  intro d
  induction d with
  | zero =>
    intro i k h hk
    obtain ⟨k, rfl⟩ : ∃ q, k = q + 1 := ⟨k - 1, by omega⟩
    have hR : ∀ n : Int, order_Rank.f k n = some (rankOf n) := fun _ => rfl
    rw [annuitylaw23_OrderTells.l0, if_neg (by omega), oFind_f key l (by omega), ob, rFind_f key l (by omega) k (by omega), ob, if_pos rfl, oLast_f l (by omega) k (by omega), ob, rLast_f l (by omega) k (by omega), ob, if_pos rfl,
      hR, ob, rRank_f _ k (by omega), ob, if_pos rfl, hR, ob, rRank_f _ k (by omega), ob, if_pos rfl, wakes_f k (by omega), ob]
  | succ d ih =>
    intro i k h hk
    obtain ⟨k, rfl⟩ : ∃ q, k = q + 1 := ⟨k - 1, by omega⟩
    have e : ((i : Int) + 1) = ((i + 1 : Nat) : Int) := by omega
    rw [annuitylaw23_OrderTells.l0, if_pos (by omega), if_pos (by omega), oCmp_f (rd_T26 l (i : Int)) x k (by omega), ob, rCmp_f (rd_T26 l (i : Int)) x k (by omega), ob, if_pos rfl, oCmp_f x (rd_T26 l (i : Int)) k (by omega), ob, rCmp_f x (rd_T26 l (i : Int)) k (by omega), ob, if_pos rfl, w1 (by omega) (by omega), e]
    exact ih (i + 1) k (by omega) (by omega)
theorem OrderTells : annuitylaw23_OrderTells.Pure := by
  intro l0 a1_0 a1_1 a1_2 a1_3 a1_4 a1_5 a1_6 a1_7 a1_8 a1_9 a1_10 a2
  intros
  obtain ⟨k, hk⟩ : ∃ k : Nat, 2000 ≤ k := ⟨2000, Nat.le_refl _⟩
  refine ⟨k, ?_⟩
  unfold annuitylaw23_OrderTells.f
  by_cases c : (l0.length : Int) > 120
  · rw [if_pos c, wakes_f k (by omega), ob]
  · have hl : l0.length ≤ 120 := by omega
    have hs := sortE_len l0
    have hi : ∀ x, (insE x (sortE l0)).length ≤ 121 := fun x => by rw [insE_len]; omega
    have hp := oPut_f (sortE l0) (by omega) ⟨a1_0, a1_1, a1_2, a1_3, a1_4, a1_5, a1_6, a1_7, a1_8, a1_9, a1_10⟩ k
    have hr := rPut_f (sortE l0) (by omega) ⟨a1_0, a1_1, a1_2, a1_3, a1_4, a1_5, a1_6, a1_7, a1_8, a1_9, a1_10⟩ k (by omega)
    have hg := tells_go l0 hl a2 ⟨a1_0, a1_1, a1_2, a1_3, a1_4, a1_5, a1_6, a1_7, a1_8, a1_9, a1_10⟩ 700 (Nat.le_refl _) l0.length 0 k (by omega) (by omega)
    dsimp only at hp hr hg
    rw [if_neg c, ob, if_pos (by simp; omega), ob, List.nil_append, oSort_f l0 (by omega), ob, rSort_f l0 (by omega), ob, ob, if_pos (by simp; omega), List.nil_append, hp, ob, hr, ob, events_f (sortE l0) (by omega) k (by omega), ob, if_pos rfl]
    dsimp only
    rw [events_f _ (by have := hi ⟨a1_0, a1_1, a1_2, a1_3, a1_4, a1_5, a1_6, a1_7, a1_8, a1_9, a1_10⟩; omega) k (by have := hi ⟨a1_0, a1_1, a1_2, a1_3, a1_4, a1_5, a1_6, a1_7, a1_8, a1_9, a1_10⟩; omega), ob, if_pos rfl, if_pos rfl, events_f l0 (by omega) k (by omega), ob, if_pos rfl]
    exact hg
end Go.Proofs.Ytjdhhbjnihhncaa.Pure
