/- OrderLast in plain words: what is sorted stays; its last one is of the last day; a key's place holds the key. -/
import Derived.Test.YtjdhhbjnihhncaaOrdEv
import Derived.Test.YtjdhhbjnihhncaaPx15
namespace Go.Proofs.Ytjdhhbjnihhncaa.Pure
open Go.RowKit Go.Proofs.Ytjdhhbjnihhncaa.P Go.Proofs.YtjdhhbjnihhncaaW.PrintWords Go.Proofs.YtjdhhbjnihhncaaW.PrintLast Go.Proofs.Ytjdhhbjnihhncaa.Ord
set_option linter.unusedVariables false
theorem last_ord {l : List S26} (h : Ord l) (hp : 0 < l.length) (hl : l.length ≤ 1000) : lastE l = (rd_T26 l (wrap64 ((l.length : Int) - 1))).f1 := by
  rw [w2 (by omega) (by omega), show ((l.length : Int) - 1) = ((l.length - 1 : Nat) : Int) by omega, rd_get (show l.length - 1 < l.length by omega)]
  obtain ⟨h1, x, hx, h2⟩ := lastE_max (l := l) (by intro e; rw [e] at hp; simp at hp)
  have h3 := h1 _ (List.getElem_mem (show l.length - 1 < l.length by omega))
  obtain ⟨i, hi, e⟩ := List.getElem_of_mem hx
  by_cases c : i = l.length - 1
  · rw [← h2, ← e]; simp only [c]
  · have h4 := List.pairwise_iff_getElem.1 h i (l.length - 1) hi (by omega) (by omega)
    have := cmE_val l[i] l[l.length - 1]
    rw [e] at this h4
    omega
theorem OrderLast : annuitylaw23_OrderLast.Pure := by
  intro l0 a1
  intros
  obtain ⟨k, hk⟩ : ∃ k : Nat, 2000 ≤ k := ⟨2000, Nat.le_refl _⟩
  refine ⟨k, ?_⟩
  unfold annuitylaw23_OrderLast.f
  by_cases c : (l0.length : Int) > 120
  · rw [if_pos c, wakes_f k (by omega), ob]
  · have hl : l0.length ≤ 120 := by omega
    have hs := sortE_len l0
    have ho := sortE_ord l0
    have hpm := sortE_perm l0
    have hq := idxK_ge a1 (sortE l0) 0
    have hq2 := idxK_ge a1 l0 0
    have hle := lastE_perm hpm
    rw [if_neg c, ob, if_pos (by simp; omega), List.nil_append, oSort_f l0 (by omega), ob, if_pos (by omega), ob, if_pos (by simp; omega), List.nil_append, oSort_f (sortE l0) (by omega), ob, sortE_of_ord _ ho, events_f (sortE l0) (by omega) k (by omega), ob, if_pos rfl]
    simp only [oFind_f a1 l0 (by omega), oFind_f a1 (sortE l0) (by omega), oLast_f l0 (by omega) k (by omega), oLast_f (sortE l0) (by omega) k (by omega), wakes_f k (by omega), ob, hle]
    have hkey : (idxK a1 (sortE l0) 0 < 0 ∧ idxK a1 l0 0 < 0) ∨ ∃ q : Nat, q < (sortE l0).length ∧ (rd_T26 (sortE l0) (q : Int)).f2 = a1 ∧ idxK a1 (sortE l0) 0 = (q : Int) ∧ ¬ idxK a1 l0 0 < 0 := by
      rcases hq with ⟨h1, h2⟩ | ⟨q, h1, h2, h3⟩
      · left
        rcases hq2 with ⟨h4, h5⟩ | ⟨q, h4, h5, h6⟩
        · omega
        · exact absurd h5 (h1 _ (hpm.mem_iff.2 (rd_mem h4)))
      · right
        refine ⟨q, h1, h2, by rw [h3]; simp, ?_⟩
        rcases hq2 with ⟨h4, h5⟩ | ⟨p, h4, h5, h6⟩
        · exact absurd h2 (h4 _ (hpm.mem_iff.1 (rd_mem h1)))
        · omega
    have tail : (if idxK a1 (sortE l0) 0 ≥ ((sortE l0).length : Int) then (none : Option Bool) else (if idxK a1 (sortE l0) 0 ≥ 0 then (if 0 ≤ idxK a1 (sortE l0) 0 then (if idxK a1 (sortE l0) 0 < ((sortE l0).length : Int) then (if ((rd_T26 (sortE l0) (idxK a1 (sortE l0) 0)).f2) = a1 then (if ((decide (idxK a1 (sortE l0) 0 < 0)) == (decide (idxK a1 l0 0 < 0))) = true then (if (l0.length : Int) > 0 then some true else (if lastE l0 = (-1) then some true else (none))) else (none)) else (none)) else (none)) else (none)) else (if ((decide (idxK a1 (sortE l0) 0 < 0)) == (decide (idxK a1 l0 0 < 0))) = true then (if (l0.length : Int) > 0 then some true else (if lastE l0 = (-1) then some true else (none))) else (none)))) = some true := by
      have hz : (if (l0.length : Int) > 0 then some true else (if lastE l0 = (-1) then some true else (none : Option Bool))) = some true := by
        by_cases d : (l0.length : Int) > 0
        · rw [if_pos d]
        · have : l0 = [] := List.eq_nil_of_length_eq_zero (by omega)
          rw [if_neg d, this, if_pos (show lastE [] = -1 from rfl)]
      rw [hz]
      rcases hkey with ⟨h1, h2⟩ | ⟨q, h1, h2, h3, h4⟩
      · rw [if_neg (by omega), if_neg (by omega), decide_eq_true h1, decide_eq_true h2]; rfl
      · rw [if_neg (by omega), if_pos (by omega), if_pos (by omega), if_pos (by omega), h3, if_pos h2, decide_eq_false (show ¬ (q : Int) < 0 by omega), decide_eq_false h4]; rfl
    by_cases d : ((sortE l0).length : Int) > 0
    · rw [if_pos d, if_pos (by rw [w2 (by omega) (by omega)]; omega), if_pos (by rw [w2 (by omega) (by omega)]; omega), if_pos (by rw [← last_ord ho (by omega) (by omega), hle]), if_pos trivial]
      exact tail
    · rw [if_neg d]
      exact tail
end Go.Proofs.Ytjdhhbjnihhncaa.Pure
