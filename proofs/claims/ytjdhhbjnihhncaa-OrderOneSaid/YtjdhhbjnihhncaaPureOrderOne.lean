/- OrderOne in plain words: however events with different keys come, sorted they stand in one order. -/
import Derived.Test.YtjdhhbjnihhncaaOrdEv
import Derived.Test.YtjdhhbjnihhncaaPx14
namespace Go.Proofs.Ytjdhhbjnihhncaa.Pure
open Go.RowKit Go.Proofs.Ytjdhhbjnihhncaa.P Go.Proofs.YtjdhhbjnihhncaaW.PrintWords Go.Proofs.YtjdhhbjnihhncaaW.PrintLast Go.Proofs.Ytjdhhbjnihhncaa.Ord
set_option linter.unusedVariables false
/-- No two have one key. -/
def Dk (l : List S26) : Prop := l.Pairwise (fun x y => x.f2 ≠ y.f2)
theorem Dk.perm {l m : List S26} (h : l.Perm m) (d : Dk l) : Dk m := h.pairwise d (fun h => Ne.symm h)
theorem Dk.one {l : List S26} (d : Dk l) : ∀ x ∈ l, ∀ y ∈ l, x.f2 = y.f2 → x = y := by
  intro x hx y hy e
  obtain ⟨i, hi, ei⟩ := List.getElem_of_mem hx
  obtain ⟨j, hj, ej⟩ := List.getElem_of_mem hy
  rcases Nat.lt_trichotomy i j with h | h | h
  · exact absurd (by rw [ei, ej]; exact e) (List.pairwise_iff_getElem.1 d i j hi hj h)
  · subst h; rw [← ei, ← ej]
  · exact absurd (by rw [ei, ej]; exact e.symm) (List.pairwise_iff_getElem.1 d j i hj hi h)
theorem sort_same {l m : List S26} (h : l.Perm m) (d : Dk l) : sortE l = sortE m := by
  refine ord_unique ((sortE_perm l).trans (h.trans (sortE_perm m).symm)) (sortE_ord l) (sortE_ord m) (fun x hx y hy e => ?_)
  have := cmE_val x y
  exact d.one x ((sortE_perm l).mem_iff.1 hx) y ((sortE_perm l).mem_iff.1 hy) (by omega)
theorem rd_put (x : S26) (l : List S26) : rd_T26 (insE x l) ((atE x l : Nat) : Int) = x := by
  have h := atE_le x l
  unfold rd_T26 insE
  rw [Int.toNat_natCast, List.getD_eq_getElem?_getD, List.getElem?_append_right (by simp; omega)]
  simp [Nat.min_eq_left h]
theorem l3_f (x5 x7 x11 : List S26) (hl : x5.length ≤ 60) (d5 : Dk x5) (h7 : x7 = sortE x5) (h11 : x11 = sortE x5) : ∀ (d i k : Nat), x7.length ≤ i + d → 1 ≤ i → i ≤ 100 → d + 1000 < k → annuitylaw23_OrderOne.l3 k x5 x7 x11 (i : Int) = some true := by
  have hlen : x7.length = x5.length := by rw [h7, sortE_len]
  have fin : ∀ k, 1000 ≤ k → ((order_Sort.f k x5).bind fun t310 => ((annuitykeep_Events.f k t310 x7).bind fun t313 => (if t313 = true then ((annuitykeep_Events.f k x11 x7).bind fun t314 => (if t314 = true then ((annuitylaw23_wakes.f k).bind fun t315 => (some t315)) else (none))) else (none)))) = some true := fun k hk => by
    rw [oSort_f x5 (by omega), ob, ← h7, events_f x7 (by omega) k (by omega), ob, if_pos rfl, h11, ← h7, events_f x7 (by omega) k (by omega), ob, if_pos rfl, wakes_f k (by omega), ob]
  intro d
  induction d with
  | zero =>
    intro i k h h1 hi hk
    obtain ⟨k, rfl⟩ : ∃ q, k = q + 1 := ⟨k - 1, by omega⟩
    rw [annuitylaw23_OrderOne.l3, if_neg (by omega)]
    exact fin k (by omega)
  | succ d ih =>
    intro i k h h1 hi hk
    obtain ⟨k, rfl⟩ : ∃ q, k = q + 1 := ⟨k - 1, by omega⟩
    by_cases c : i < x7.length
    · have e : ((i : Int) + 1) = ((i + 1 : Nat) : Int) := by omega
      have e1 : ((i : Int) - 1) = ((i - 1 : Nat) : Int) := by omega
      have hc : cmE (rd_T26 x7 ((i - 1 : Nat) : Int)) (rd_T26 x7 (i : Int)) < 0 := by
        have ho := sortE_ord x5
        rw [← h7] at ho
        have h2 := List.pairwise_iff_getElem.1 ho (i - 1) i (by omega) c (by omega)
        rw [rd_get (show i - 1 < x7.length by omega), rd_get c]
        have h3 := cmE_val x7[i - 1] x7[i]
        have hd7 : Dk x7 := by rw [h7]; exact d5.perm (sortE_perm x5).symm
        have h4 := List.pairwise_iff_getElem.1 hd7 (i - 1) i (by omega) c (by omega)
        omega
      have hv := cmE_val (rd_T26 x7 ((i - 1 : Nat) : Int)) (rd_T26 x7 (i : Int))
      have hf := cmE_flip (rd_T26 x7 (i : Int)) (rd_T26 x7 ((i - 1 : Nat) : Int))
      have hw : wrap64 ((i : Int) - 1) = ((i - 1 : Nat) : Int) := by rw [w2 (by omega) (by omega), e1]
      rw [annuitylaw23_OrderOne.l3, if_pos (by omega), hw, if_pos (by omega), if_pos (by omega), if_pos (by omega), oCmp_f (rd_T26 x7 ((i - 1 : Nat) : Int)) (rd_T26 x7 (i : Int)) k (by omega), ob, if_pos (by omega), oCmp_f (rd_T26 x7 (i : Int)) (rd_T26 x7 ((i - 1 : Nat) : Int)) k (by omega), ob, if_pos (by omega), w1 (by omega) (by omega), e]
      exact ih (i + 1) k (by omega) (by omega) (by omega) (by omega)
    · rw [annuitylaw23_OrderOne.l3, if_neg (by omega)]
      exact fin k (by omega)
theorem l2_f (x5 x7 : List S26) (hl : x5.length ≤ 60) (d5 : Dk x5) (h7 : x7 = sortE x5) : ∀ (d i k : Nat) (x11 : List S26), x5.length = i + d → x11 = sortE (x5.take i) → d + 2000 < k → annuitylaw23_OrderOne.l2 k x5 x7 x11 (i : Int) = some true := by
  intro d
  induction d with
  | zero =>
    intro i k x11 h h11 hk
    obtain ⟨k, rfl⟩ : ∃ q, k = q + 1 := ⟨k - 1, by omega⟩
    have hx : x11 = sortE x5 := by rw [h11, List.take_of_length_le (by omega)]
    have h7l : x7.length = x5.length := by rw [h7, sortE_len]
    rw [annuitylaw23_OrderOne.l2, if_neg (by omega)]
    exact l3_f x5 x7 x11 hl d5 h7 hx 60 1 k (by omega) (Nat.le_refl _) (by omega) (by omega)
  | succ d ih =>
    intro i k x11 h h11 hk
    obtain ⟨k, rfl⟩ : ∃ q, k = q + 1 := ⟨k - 1, by omega⟩
    have e : ((i : Int) + 1) = ((i + 1 : Nat) : Int) := by omega
    have hlen : x11.length = i := by rw [h11, sortE_len, List.length_take]; omega
    have hil := insE_len (rd_T26 x5 (i : Int)) x11
    have hat := atE_le (rd_T26 x5 (i : Int)) x11
    have hn : insE (rd_T26 x5 (i : Int)) x11 = sortE (x5.take (i + 1)) := by
      rw [h11, List.take_succ_eq_append_getElem (show i < x5.length by omega), sortE_snoc, rd_get (show i < x5.length by omega)]
    rw [annuitylaw23_OrderOne.l2, if_pos (by omega), if_pos (by omega), oPut_f x11 (by omega) (rd_T26 x5 (i : Int)) k, ob]
    dsimp only
    rw [if_pos (by rw [hil, w1 (by omega) (by omega)]; omega), if_neg (by omega), if_neg (by omega), if_pos (by omega), if_pos (by omega), rd_put, event_f, ob, if_pos rfl, w1 (by omega) (by omega), e]
    exact ih (i + 1) k _ (by omega) hn (by omega)
theorem j2_f (x5 x7 : List S26) (hl : x5.length ≤ 60) (d5 : Dk x5) (h7 : x7 = sortE x5) (k : Nat) (hk : 3000 ≤ k) : annuitylaw23_OrderOne.j2 k x5 x7 = some true := by
  obtain ⟨k, rfl⟩ : ∃ q, k = q + 1 := ⟨k - 1, by omega⟩
  rw [annuitylaw23_OrderOne.j2]
  exact l2_f x5 x7 hl d5 h7 x5.length 0 k [] (by omega) rfl (by omega)
theorem set_perm {l : List S26} {a b : Nat} (ha : a < l.length) (hb : b < l.length) : ((l.set a l[b]).set b l[a]).Perm l := List.set_set_perm ha hb
theorem mod_f (n m : Int) (hm : 0 < m) (hm2 : m ≤ 1000) : ∃ r, annuitykeep_Mod.f n m = some r ∧ 0 ≤ r ∧ r < m := by
  have h1 := Int.tmod_lt_of_pos n hm
  have h2 : -m < Int.tmod n m := by
    rcases Int.lt_or_le n 0 with c | c
    · have := Int.tmod_lt_of_pos (-n) hm
      rw [Int.neg_tmod] at this
      omega
    · have := Int.tmod_nonneg m c
      omega
  have hw : wrap64 (Int.tmod n m + m) = Int.tmod n m + m := by unfold wrap64; omega
  refine ⟨Int.tmod (Int.tmod n m + m) m, ?_, Int.tmod_nonneg m (by omega), Int.tmod_lt_of_pos _ hm⟩
  unfold annuitykeep_Mod.f
  simp only [hw]
  repeat' split
  all_goals first | rfl | (exfalso; omega)
theorem l1_f (x1 : List Int) (h1 : x1.length ≤ 100) (x7 : List S26) : ∀ (d i k : Nat) (x5 : List S26), x1.length = i + d → x5.length ≤ 60 → Dk x5 → x7 = sortE x5 → d + 4000 < k → annuitylaw23_OrderOne.l1 k x1 x5 x7 (i : Int) = some true := by
  intro d
  induction d with
  | zero =>
    intro i k x5 h hl d5 h7 hk
    obtain ⟨k, rfl⟩ : ∃ q, k = q + 1 := ⟨k - 1, by omega⟩
    rw [annuitylaw23_OrderOne.l1, if_neg (by omega)]
    exact j2_f x5 x7 hl d5 h7 k (by omega)
  | succ d ih =>
    intro i k x5 h hl d5 h7 hk
    obtain ⟨k, rfl⟩ : ∃ q, k = q + 1 := ⟨k - 1, by omega⟩
    by_cases c : (x5.length : Int) > 0
    · have e : ((i : Int) + 1) = ((i + 1 : Nat) : Int) := by omega
      obtain ⟨r, hr, hr0, hr1⟩ := mod_f (rd x1 (i : Int)) (x5.length : Int) c (by omega)
      have ht0 := Int.tmod_nonneg (x5.length : Int) (show (0 : Int) ≤ (i : Int) by omega)
      have ht1 := Int.tmod_lt_of_pos (i : Int) c
      obtain ⟨t, ht⟩ : ∃ t : Nat, Int.tmod (i : Int) (x5.length : Int) = (t : Int) := ⟨(Int.tmod (i : Int) (x5.length : Int)).toNat, by omega⟩
      obtain ⟨q, rfl⟩ : ∃ q : Nat, r = (q : Int) := ⟨r.toNat, by omega⟩
      rw [ht] at ht0 ht1
      have hp : ((x5.set t (rd_T26 x5 (q : Int))).set q (rd_T26 x5 (t : Int))).Perm x5 := by
        rw [rd_get (show q < x5.length by omega), rd_get (show t < x5.length by omega)]
        exact set_perm (by omega) (by omega)
      rw [annuitylaw23_OrderOne.l1, if_pos (by omega), if_pos c, if_neg (by omega), if_pos (by omega), hr, ob, if_pos (by omega), if_pos (by omega), ht, if_pos (by omega), if_pos (by omega), Int.toNat_natCast, Int.toNat_natCast, w1 (by omega) (by omega), e]
      exact ih (i + 1) k _ (by omega) (by rw [hp.length_eq]; exact hl) (d5.perm hp.symm) (by rw [h7]; exact sort_same hp.symm d5) (by omega)
    · rw [annuitylaw23_OrderOne.l1, if_pos (by omega), if_neg c]
      exact j2_f x5 x7 hl d5 h7 k (by omega)
theorem l0_f (x0 : List S26) (x1 : List Int) (h0 : x0.length ≤ 60) (h1 : x1.length ≤ 100) : ∀ (d i k : Nat) (x5 : List S26), x0.length = i + d → x5.length ≤ i → Dk x5 → d + 5000 < k → annuitylaw23_OrderOne.l0 k x0 x1 x5 (i : Int) = some true := by
  intro d
  induction d with
  | zero =>
    intro i k x5 h hl d5 hk
    obtain ⟨k, rfl⟩ : ∃ q, k = q + 1 := ⟨k - 1, by omega⟩
    rw [annuitylaw23_OrderOne.l0, if_neg (by omega), ob, if_pos (by simp; omega), List.nil_append, oSort_f x5 (by omega), ob]
    exact l1_f x1 h1 _ x1.length 0 k x5 (by omega) (by omega) d5 rfl (by omega)
  | succ d ih =>
    intro i k x5 h hl d5 hk
    obtain ⟨k, rfl⟩ : ∃ q, k = q + 1 := ⟨k - 1, by omega⟩
    have e : ((i : Int) + 1) = ((i + 1 : Nat) : Int) := by omega
    rw [annuitylaw23_OrderOne.l0, if_pos (by omega), if_pos (by omega), rFind_f (rd_T26 x0 (i : Int)).f2 x5 (by omega) k (by omega), ob, w1 (by omega) (by omega), e]
    rcases idxK_ge (rd_T26 x0 (i : Int)).f2 x5 0 with ⟨h2, h3⟩ | ⟨q, h2, h3, h4⟩
    · rw [if_pos (by omega), if_pos (by omega)]
      refine ih (i + 1) k _ (by omega) (by simp; omega) ?_ (by omega)
      exact List.pairwise_append.2 ⟨d5, List.pairwise_singleton _ _, fun a ha b hb => by rw [List.mem_singleton.1 hb]; exact h2 a ha⟩
    · rw [if_neg (by omega)]
      exact ih (i + 1) k x5 (by omega) (by omega) d5 (by omega)
theorem OrderOne : annuitylaw23_OrderOne.Pure := by
  intro l0 l1
  intros
  obtain ⟨k, hk⟩ : ∃ k : Nat, 9000 ≤ k := ⟨9000, Nat.le_refl _⟩
  refine ⟨k, ?_⟩
  unfold annuitylaw23_OrderOne.f
  by_cases c : (l0.length : Int) > 60
  · rw [if_pos c, wakes_f k (by omega), ob]
  · rw [if_neg c]
    by_cases d : (l1.length : Int) > 100
    · rw [if_pos d, wakes_f k (by omega), ob]
    · rw [if_neg d]
      exact l0_f l0 l1 (by omega) (by omega) l0.length 0 k [] (by omega) (by simp) List.Pairwise.nil (by omega)
end Go.Proofs.Ytjdhhbjnihhncaa.Pure
