/- ShareFair: the parts are together just the total; each is its quotient, Down or Up; who weighs nothing gets nothing; of two the heavier one gets no less; for every input. -/
import Derived.Test.YtpbonoecjlafcaaPx8
import Derived.Test.YtpbonoecjlafcaaPx11
import Derived.Test.YtpbonoecjlafcaaShareEv
namespace Go.Proofs.Ytpbonoecjlafcaa.Pure
set_option linter.unusedVariables false
open Go.RowKit Go.Proofs.Ytpbonoecjlafcaa.P Go.Proofs.YtpbonoecjlafcaaW.PrintWords Go.Proofs.YtpbonoecjlafcaaW.PrintLast Go.Proofs.YtpbonoecjlafcaaW.PrintMore Go.Proofs.Ytpbonoecjlafcaa.PlainM
theorem sumI_set : ∀ (p : List Int) (i : Nat) (x : Int), i < p.length → sumI (p.set i x) = sumI p - rd p i + x := by
  intro p
  induction p with
  | nil => intro i x h; simp at h
  | cons a p ih =>
    intro i x h
    cases i with
    | zero => simp only [List.set_cons_zero, sumI]; unfold rd; simp; omega
    | succ i =>
      have h' : i < p.length := by simpa using h
      have := ih i x h'
      have e : rd (a :: p) ((i + 1 : Nat) : Int) = rd p i := by unfold rd; rw [Int.toNat_natCast, Int.toNat_natCast]; rfl
      rw [e]
      simp only [List.set_cons_succ, sumI]
      omega
theorem sumI_upd : ∀ (L : List Nat) (p : List Int), (∀ i ∈ L, i < p.length) → sumI (updS L p) = sumI p + L.length := by
  intro L
  induction L with
  | nil => intro p _; simp [updS]
  | cons a L ih =>
    intro p hp
    have ha := hp a (List.mem_cons_self ..)
    show sumI (updS L (p.set a (rd p a + 1))) = _
    rw [ih _ (fun i hi => by rw [List.length_set]; exact hp i (List.mem_cons_of_mem _ hi)), sumI_set p a _ ha, List.length_cons]
    omega
section
variable {t : Int} {l : List Int}
theorem prt_upd (t S : Int) (l : List Int) : prtS t S l = updS (winS t S l) (quoS t S l) := by
  rw [upd_is _ _ (win_nodup _ _ _) (fun i hi => by rw [quo_len]; exact win_lt hi), quo_len]
  rfl
theorem plc_len (l : List Int) : (plc l).length = l.length := by rw [(plc_perm l).length_eq, List.length_range]
theorem win_len (hS : 0 < sumI l) : ((winS t (sumI l) l).length : Int) = lftS t (sumI l) l := by
  have h1 := lft_nonneg (t := t) hS
  have h2 := lft_le (t := t) hS
  unfold winS
  rw [List.length_take, plc_len, rst_len]
  omega
/-- All is shared out. -/
theorem prt_sum (hS : 0 < sumI l) : sumI (prtS t (sumI l) l) = t := by
  rw [prt_upd, sumI_upd _ _ (fun i hi => by rw [quo_len]; exact win_lt hi), win_len hS]
  unfold lftS
  omega
theorem rd_quo (t S : Int) {j : Nat} (h : j < l.length) : rd (quoS t S l) j = t * rd l j / S := rd_map l j h
theorem rd_rst (t S : Int) {j : Nat} (h : j < l.length) : rd (rstS t S l) j = t * rd l j % S := rd_map l j h
theorem rd_prt (t S : Int) {j : Nat} (h : j < l.length) : rd (prtS t S l) j = t * rd l j / S + if j ∈ winS t S l then 1 else 0 := by
  unfold prtS
  rw [rd_range h, rd_quo t S h]
/-- Who stands before one who gets one more gets one more. -/
theorem win_closed {S : Int} {i k : Nat} (hi : i ∈ winS t S l) (hk : k < l.length) (h : plR (rstS t S l) k i) : k ∈ winS t S l := by
  have hm : k ∈ plc (rstS t S l) := (plc_perm _).mem_iff.2 (by rw [List.mem_range, rst_len]; exact hk)
  have hp := plc_pw (rstS t S l)
  unfold winS at hi ⊢
  rw [← List.take_append_drop (lftS t S l).toNat (plc (rstS t S l))] at hm hp
  rcases List.mem_append.1 hm with h1 | h1
  · exact h1
  · exact (plR_irrefl h ((List.pairwise_append.1 hp).2.2 i hi k h1)).elim
theorem map_rd_range : ∀ r : List Int, (List.range r.length).map (fun (j : Nat) => rd r j) = r := by
  intro r
  apply ext_rd (by simp)
  intro j hj
  rw [List.length_map, List.length_range] at hj
  exact rd_range hj
/-- Who gets one more has something left over. -/
theorem win_pos (hS : 0 < sumI l) {i : Nat} (hi : i ∈ winS t (sumI l) l) : 0 < t * rd l i % sumI l := by
  have hin := win_lt hi
  rw [← rd_rst t (sumI l) hin]
  have h0 := rst_nonneg (t := t) hS l
  have h1 := rst_lt (t := t) hS l
  have hlm := lft_mul (t := t) (l := l)
  have hln := lft_nonneg (t := t) hS
  have hn : ∀ j ∈ plc (rstS t (sumI l) l), j < (rstS t (sumI l) l).length := fun j hj => by have := (plc_perm _).mem_iff.1 hj; rwa [List.mem_range] at this
  have hsum : sumI (rstS t (sumI l) l) = sumI ((plc (rstS t (sumI l) l)).map (fun (j : Nat) => rd (rstS t (sumI l) l) j)) := by
    rw [sumI_perm ((plc_perm (rstS t (sumI l) l)).map _), map_rd_range]
  have hi0 := h0 _ (rd_mem (rstS t (sumI l) l) i (by rw [rst_len]; exact hin))
  by_cases c : 0 < rd (rstS t (sumI l) l) i
  · exact c
  exfalso
  unfold winS at hi
  obtain ⟨p, hp, hpe⟩ := List.getElem_of_mem hi
  rw [List.length_take] at hp
  rw [List.getElem_take] at hpe
  have hpl : p < (plc (rstS t (sumI l) l)).length := by omega
  have hpw := plc_pw (rstS t (sumI l) l)
  rw [← List.take_append_drop p (plc (rstS t (sumI l) l)), List.map_append, sumI_append] at hsum
  have a1 := sumI_le (sumI l - 1) (((plc (rstS t (sumI l) l)).take p).map (fun (j : Nat) => rd (rstS t (sumI l) l) j)) (fun x hx => by
    obtain ⟨j, hj, rfl⟩ := List.mem_map.1 hx
    exact h1 _ (rd_mem _ j (hn j (List.mem_of_mem_take hj))))
  have a2 := sumI_le 0 (((plc (rstS t (sumI l) l)).drop p).map (fun (j : Nat) => rd (rstS t (sumI l) l) j)) (fun x hx => by
    obtain ⟨j, hj, rfl⟩ := List.mem_map.1 hx
    rw [List.drop_eq_getElem_cons hpl, hpe] at hj
    rcases List.mem_cons.1 hj with e | e
    · subst e; omega
    · rw [← List.take_append_drop p (plc (rstS t (sumI l) l)), List.drop_eq_getElem_cons hpl, hpe] at hpw
      have := (List.pairwise_cons.1 (List.pairwise_append.1 hpw).2.1).1 j e
      unfold plR at this
      omega)
  rw [List.length_map, List.length_take, Nat.min_eq_left (by omega), Int.mul_sub] at a1
  rw [Int.mul_zero] at a2
  have h3 : lftS t (sumI l) l * sumI l ≤ (p : Int) * sumI l := by omega
  have := le_of_mul hS h3
  omega
theorem prt_bd (hS : 0 < sumI l) {j : Nat} (h : j < l.length) : t * rd l j / sumI l ≤ rd (prtS t (sumI l) l) j ∧ rd (prtS t (sumI l) l) j ≤ t * rd l j / sumI l + 1 ∧ (t * rd l j % sumI l = 0 → rd (prtS t (sumI l) l) j = t * rd l j / sumI l) := by
  rw [rd_prt t (sumI l) h]
  by_cases c : j ∈ winS t (sumI l) l
  · rw [if_pos c]
    have := win_pos hS c
    omega
  · rw [if_neg c]; omega
/-- Who weighs more gets no less; of as great ones the first. -/
theorem prt_mono (ht : 0 ≤ t) (hS : 0 < sumI l) {x y : Nat} (hx : x < l.length) (hy : y < l.length) (h : rd l x < rd l y ∨ (rd l x = rd l y ∧ y < x)) : rd (prtS t (sumI l) l) x ≤ rd (prtS t (sumI l) l) y := by
  have q : t * rd l x ≤ t * rd l y := Int.mul_le_mul_of_nonneg_left (by omega) ht
  have q2 := Int.ediv_le_ediv hS q
  have b1 := prt_bd (t := t) hS hx
  have b2 := prt_bd (t := t) hS hy
  by_cases c : t * rd l x / sumI l = t * rd l y / sumI l
  · rw [rd_prt t (sumI l) hx, rd_prt t (sumI l) hy, c]
    by_cases w : x ∈ winS t (sumI l) l
    · have r : plR (rstS t (sumI l) l) y x ∨ x = y := by
        have e1 := Int.mul_ediv_add_emod (t * rd l x) (sumI l)
        have e2 := Int.mul_ediv_add_emod (t * rd l y) (sumI l)
        rw [c] at e1
        unfold plR
        rw [rd_rst t (sumI l) hx, rd_rst t (sumI l) hy]
        rcases h with h | ⟨h, h2⟩
        · by_cases c3 : x = y
          · right; exact c3
          · left
            by_cases c4 : t * rd l x % sumI l < t * rd l y % sumI l
            · left; exact c4
            · -- then t is nothing
              have e3 : t * rd l x = t * rd l y := by omega
              have t0 : t = 0 := by
                by_cases c5 : t = 0
                · exact c5
                · have := Int.mul_lt_mul_of_pos_left h (show 0 < t by omega); omega
              have wp := win_pos hS w
              rw [t0, Int.zero_mul, Int.zero_emod] at wp
              omega
        · left; right
          rw [h]; exact ⟨rfl, h2⟩
      rcases r with r | r
      · rw [if_pos w, if_pos (win_closed w hy r)]; omega
      · rw [r]; omega
    · rw [if_neg w]; split <;> omega
  · omega
end
theorem fair_down {t w S : Int} (ht : gdm t) (hw : gdm w) (hwS : w ≤ S) (hS : 0 < S) : mdS t w S 0 = (t * w / S, 0) := by
  have q := quo_bd ht.1 hw.1 hwS hS
  unfold gdm at ht hw
  unfold mdS
  rw [if_neg (by omega), if_neg (by omega)]
  rfl
theorem fair_up {t w S : Int} (ht : gdm t) (hw : gdm w) (hwS : w ≤ S) (hS : 0 < S) : mdS t w S 1 = (if t * w % S = 0 then t * w / S else t * w / S + 1, 0) := by
  have q := quo_bd ht.1 hw.1 hwS hS
  have r0 := Int.emod_nonneg (t * w) (show S ≠ 0 by omega)
  have e := Int.mul_ediv_add_emod (t * w) S
  have h1 : t * w ≤ t * S := Int.mul_le_mul_of_nonneg_left hwS ht.1
  have b : t * w % S ≠ 0 → t * w / S + 1 ≤ t := by
    intro hr
    have h2 : t * w / S * S < t * S := by rw [Int.mul_comm (t * w / S)]; omega
    have := Int.lt_of_mul_lt_mul_right h2 (by omega)
    omega
  unfold gdm at ht hw
  unfold mdS
  rw [if_neg (by omega), if_neg (by omega)]
  unfold more roundS
  rw [if_pos rfl]
  by_cases c : t * w % S = 0
  · rw [if_pos c, if_neg (by simp; omega)]
  · have := b c
    rw [if_neg c, if_pos (by simp; omega), if_neg (by omega)]
theorem fair_l2 (t : Int) (l a : List Int) (S all : Int) (i R : Nat) (hl : l.length ≤ 200) (hi : i < l.length) (ha : a.length = l.length)
    (hm : ∀ x y : Nat, x < l.length → y < l.length → (rd l x < rd l y ∨ (rd l x = rd l y ∧ y < x)) → rd a x ≤ rd a y)
    (hn : ∀ k, R ≤ k → annuitylaw02_ShareFair.l1 k t l a S all ((i + 1 : Nat) : Int) = some true) : ∀ (d k j : Nat), j + d = i → d + R < k →
    annuitylaw02_ShareFair.l2 k t l a S all (i : Int) (j : Int) = some true := by
  intro d
  induction d with
  | zero =>
    intro k j hj hk
    obtain ⟨k, rfl⟩ : ∃ m, k = m + 1 := ⟨k - 1, by omega⟩
    simp only [annuitylaw02_ShareFair.l2]
    rw [if_neg (by omega), w64 (e := (i : Int) + 1) (by omega) (by omega)]
    exact hn k (by omega)
  | succ d ih =>
    intro k j hj hk
    obtain ⟨k, rfl⟩ : ∃ m, k = m + 1 := ⟨k - 1, by omega⟩
    have N := ih k (j + 1) (by omega) (by omega)
    rw [show ((j + 1 : Nat) : Int) = (j : Int) + 1 by omega] at N
    have m1 := hm j i (by omega) hi
    have m2 := hm i j hi (by omega)
    simp only [annuitylaw02_ShareFair.l2]
    rw [if_pos (by omega), if_pos (by omega), if_pos (by omega), if_pos (by omega), if_pos (by omega), w64 (e := (j : Int) + 1) (by omega) (by omega)]
    by_cases c1 : rd l j < rd l i
    · have := m1 (.inl c1)
      rw [if_pos c1, if_pos (by omega), if_pos (by omega), if_neg (by omega), if_neg (by omega), if_neg (by omega)]
      exact N
    · rw [if_neg c1]
      by_cases c2 : rd l j > rd l i
      · have := m2 (.inl c2)
        rw [if_pos c2, if_pos (by omega), if_pos (by omega), if_neg (by omega), if_neg (by omega)]
        exact N
      · have := m2 (.inr ⟨by omega, by omega⟩)
        rw [if_neg c2, if_pos (by omega), if_pos (by omega), if_pos (by omega), if_neg (by omega)]
        exact N
theorem fair_l1 (t : Int) (l : List Int) (ht : gdm t) (hl : l.length ≤ 200) (hg : ∀ x ∈ l, gdm x) (hS : 0 < sumI l) (hS2 : sumI l ≤ 10000000000000) :
    ∀ (d j : Nat), j + d = l.length → ∀ k : Nat, d * 300 + 3500 ≤ k → annuitylaw02_ShareFair.l1 k t l (prtS t (sumI l) l) (sumI l) t (j : Int) = some true := by
  intro d
  induction d with
  | zero =>
    intro j hj k hk
    obtain ⟨k, rfl⟩ : ∃ m, k = m + 1 := ⟨k - 1, by omega⟩
    simp only [annuitylaw02_ShareFair.l1]
    rw [if_neg (by rw [prt_len]; omega), if_pos trivial, wakes02 k (by omega)]
    rfl
  | succ d ih =>
    intro j hj k hk
    obtain ⟨k, rfl⟩ : ∃ m, k = (m + 1) + 1 := ⟨k - 2, by omega⟩
    have hjl : j < l.length := by omega
    have hm := rd_mem l j hjl
    have hw := hg _ hm
    have hwS := sumI_mem l (fun x hx => (hg x hx).1) _ hm
    have b := prt_bd (t := t) hS hjl
    have r0 := Int.emod_nonneg (t * rd l j) (show sumI l ≠ 0 by omega)
    have N := fair_l2 t l (prtS t (sumI l) l) (sumI l) t j (d * 300 + 3500) hl hjl (prt_len _ _ _) (fun x y hx hy h => prt_mono ht.1 hS hx hy h) (fun k hk => ih (j + 1) (by omega) k hk) j k 0 (by omega) (by omega)
    have J : annuitylaw02_ShareFair.j2 (k + 1) t l (prtS t (sumI l) l) (sumI l) t (j : Int) false = some true := by
      simp only [annuitylaw02_ShareFair.j2]
      rw [if_neg (by simp)]
      exact N
    have ht' := ht; have hw' := hw
    unfold gdm at ht' hw'
    simp only [annuitylaw02_ShareFair.l1]
    rw [prt_len, if_pos (by omega), if_pos (by omega), if_pos (by omega), ref_MulDiv_is t (rd l j) (sumI l) 0 (k + 1) (by omega) (by omega) (by omega) (by omega), fair_down ht hw hwS hS]
    simp only [obind]
    rw [ref_MulDiv_is t (rd l j) (sumI l) 1 (k + 1) (by omega) (by omega) (by omega) (by omega), fair_up ht hw hwS hS]
    simp only [obind, if_true]
    have U : ¬ rd (prtS t (sumI l) l) j > (if t * rd l j % sumI l = 0 then t * rd l j / sumI l else t * rd l j / sumI l + 1) := by
      split
      · rename_i c; have := b.2.2 c; omega
      · omega
    rw [if_neg (by omega), if_neg U]
    by_cases c : rd l j = 0
    · have e : rd (prtS t (sumI l) l) j = 0 := by
        rw [b.2.2 (by rw [c, Int.mul_zero, Int.zero_emod]), c, Int.mul_zero, Int.zero_ediv]
      rw [if_pos c, e, bne_self_eq_false]
      exact J
    · rw [if_neg c]
      exact J
theorem fair_l0 (t : Int) (l : List Int) (ht : gdm t) (hl : l.length ≤ 200) (hg : ∀ x ∈ l, gdm x) (hS : 0 < sumI l) (hS2 : sumI l ≤ 10000000000000) :
    ∀ (d j : Nat), j + d = l.length → ∀ k : Nat, d + 70000 ≤ k → annuitylaw02_ShareFair.l0 k t l (prtS t (sumI l) l) (sumI (l.take j)) (sumI ((prtS t (sumI l) l).take j)) (j : Int) = some true := by
  intro d
  induction d with
  | zero =>
    intro j hj k hk
    obtain ⟨k, rfl⟩ : ∃ m, k = m + 1 := ⟨k - 1, by omega⟩
    simp only [annuitylaw02_ShareFair.l0]
    rw [if_neg (by rw [prt_len]; omega), List.take_of_length_le (by omega), List.take_of_length_le (by rw [prt_len]; omega), prt_sum hS]
    exact fair_l1 t l ht hl hg hS hS2 l.length 0 (by omega) k (by omega)
  | succ d ih =>
    intro j hj k hk
    obtain ⟨k, rfl⟩ : ∃ m, k = m + 1 := ⟨k - 1, by omega⟩
    have hjl : j < l.length := by omega
    have tk : ∀ p : List Int, j < p.length → sumI (p.take (j + 1)) = sumI (p.take j) + rd p j := by
      intro p hp
      rw [List.take_add_one, sumI_append]
      have e : rd p j = p[j] := by unfold rd; simp [List.getD_eq_getElem?_getD, hp]
      rw [e]; simp [hp, sumI]
    have h0 : ∀ x ∈ l, 0 ≤ x := fun x hx => (hg x hx).1
    have p0 : ∀ x ∈ prtS t (sumI l) l, 0 ≤ x := by
      intro x hx
      unfold prtS at hx
      obtain ⟨i, hi, rfl⟩ := List.mem_map.1 hx
      have hi := List.mem_range.1 hi
      have := (quo_bd ht.1 (h0 _ (rd_mem l i hi)) (sumI_mem l h0 _ (rd_mem l i hi)) hS).1
      rw [rd_quo t (sumI l) hi]
      split <;> omega
    have sp : ∀ p : List Int, (∀ x ∈ p, 0 ≤ x) → 0 ≤ sumI (p.take (j + 1)) ∧ sumI (p.take (j + 1)) ≤ sumI p := by
      intro p hp
      have e : sumI p = sumI (p.take (j + 1)) + sumI (p.drop (j + 1)) := by rw [← sumI_append, List.take_append_drop]
      have a := sumI_nonneg (p.take (j + 1)) (fun x hx => hp x (List.mem_of_mem_take hx))
      have b := sumI_nonneg (p.drop (j + 1)) (fun x hx => hp x (List.mem_of_mem_drop hx))
      omega
    have s1 := sp l h0
    have s2 := sp _ p0
    rw [prt_sum hS] at s2
    have e1 := tk l hjl
    have e2 := tk (prtS t (sumI l) l) (by rw [prt_len]; exact hjl)
    have ht' := ht
    unfold gdm at ht'
    simp only [annuitylaw02_ShareFair.l0]
    rw [prt_len, if_pos (by omega), if_pos (by omega), if_pos (by omega), ← e1, ← e2, w64 (by omega) (by omega), w64 (by omega) (by omega), w64 (e := (j : Int) + 1) (by omega) (by omega), show (j : Int) + 1 = ((j + 1 : Nat) : Int) by omega]
    exact ih (j + 1) (by omega) k (by omega)
theorem ShareFair : annuitylaw02_ShareFair.Pure := by
  intro t l _ _ _ _
  obtain ⟨k, hk⟩ : ∃ k : Nat, 80000 ≤ k := ⟨_, Nat.le_refl _⟩
  refine ⟨k, ?_⟩
  unfold annuitylaw02_ShareFair.f
  by_cases c : (l.length : Int) > 200
  · rw [if_pos c, wakes02 k (by omega)]; rfl
  rw [if_neg c]
  simp only [obind, List.nil_append, List.length_nil]
  rw [if_pos (by omega), split_is t l k (by omega) (by omega)]
  simp only [obind]
  by_cases g : splitG t l
  · have e : splitF t l = (prtS t (sumI l) l, 0) := by unfold splitF; rw [if_pos g]
    rw [e, if_pos rfl, prt_len, if_pos rfl]
    have := fair_l0 t l g.1 (by omega) g.2.2.1 g.2.2.2.2 g.2.2.2.1 l.length 0 (by omega) k (by omega)
    exact this
  · have e : splitF t l = ([], 1) := by unfold splitF; rw [if_neg g]
    rw [e, if_neg (by simp), if_pos (by simp), wakes02 k (by omega)]
    rfl
end Go.Proofs.Ytpbonoecjlafcaa.Pure
