/- What share.Fill and the reference's Fill come to, in plain numbers, for every list that a statement goes through; share.Split at three weights that are alike. -/
import Derived.Test.YtlhcohipnieidaaZg
import Derived.Test.YtlhcohipnieidaaZp
import Derived.Test.YtlhcohipnieidaaPx1
import Derived.Test.YtlhcohipnieidaaPx9
import Derived.Test.YtlhcohipnieidaaPx28
import Derived.Test.YtlhcohipnieidaaPx31
import Derived.Test.YtlhcohipnieidaaMoneyEv
namespace Go.Proofs.Ytlhcohipnieidaa.PureSh
set_option linter.unusedVariables false
set_option linter.unusedSimpArgs false
open Go.RowKit Go.Proofs.Ytlhcohipnieidaa.P Go.Proofs.YtlhcohipnieidaaW.PrintWords Go.Proofs.YtlhcohipnieidaaW.PrintLast Go.Proofs.YtlhcohipnieidaaW.PrintMore Go.Proofs.Ytlhcohipnieidaa.PlainM Go.Proofs.Ytlhcohipnieidaa.Pure
/-- Money, and not below 0. -/
def gdm (a : Int) : Prop := 0 ≤ a ∧ a ≤ 10000000000000
instance (a : Int) : Decidable (gdm a) := by unfold gdm; infer_instance
theorem rd_drop (l : List Int) (j : Nat) (h : j < l.length) : l.drop j = rd l j :: l.drop (j + 1) := by
  rw [List.drop_eq_getElem_cons h]; congr 1; unfold rd; simp [List.getD_eq_getElem?_getD, h]
theorem rd_mem (l : List Int) (j : Nat) (h : j < l.length) : rd l j ∈ l := by
  have : rd l j = l[j] := by unfold rd; simp [List.getD_eq_getElem?_getD, h]
  rw [this]; exact List.getElem_mem h
theorem bad_is (a : Int) : share_good.bad a = decide (¬ gdm a) := by
  unfold share_good.bad isMoney gdm
  rw [decide_eq_decide, decide_eq_false_iff_not]
  omega
theorem idx_is : ∀ (l : List Int) (j : Nat), share_good.idx l j < 0 ↔ ∀ x ∈ l, gdm x := by
  intro l
  induction l with
  | nil => intro j; simp [share_good.idx]
  | cons a l ih =>
    intro j
    rw [share_good.idx, bad_is]
    by_cases h : gdm a
    · rw [if_neg (by simpa using h), ih]
      exact ⟨fun h2 x hx => (List.mem_cons.1 hx).elim (fun e => e ▸ h) (h2 x), fun h2 x hx => h2 x (List.mem_cons_of_mem _ hx)⟩
    · rw [if_pos (by simpa using h)]
      exact ⟨fun h2 => by omega, fun h2 => absurd (h2 a (List.mem_cons_self ..)) h⟩
theorem sgood_is (k : Nat) (t : Int) (l : List Int) (hl : l.length ≤ 140737488351232) : share_good.f k t l = some (decide (gdm t ∧ l.length ≤ 1000 ∧ ∀ x ∈ l, gdm x)) := by
  unfold share_good.f
  rw [if_pos hl]
  congr 1
  rw [decide_eq_decide, idx_is]
  unfold gdm isMoney
  rw [decide_eq_true_eq]
  exact ⟨fun ⟨h1, h2, h3, h4⟩ => ⟨⟨h1, h2.2⟩, h3, h4⟩, fun ⟨h1, h3, h4⟩ => ⟨h1.1, ⟨by omega, h1.2⟩, h3, h4⟩⟩
theorem longs_l0 (l : List Int) (hl : l.length ≤ 4611686018427387904) : ∀ (d k : Nat) (i : Int), 0 ≤ i → i + d = l.length → d < k → annuitykeep_Longs.l0 k l l i = some true := by
  intro d
  induction d with
  | zero =>
    intro k i h0 h1 hk
    obtain ⟨k, rfl⟩ : ∃ m, k = m + 1 := ⟨k - 1, by omega⟩
    simp only [annuitykeep_Longs.l0]; rw [if_neg (by omega)]
  | succ d ih =>
    intro k i h0 h1 hk
    obtain ⟨k, rfl⟩ : ∃ m, k = m + 1 := ⟨k - 1, by omega⟩
    simp only [annuitykeep_Longs.l0]
    rw [if_pos (by omega), if_pos h0, if_pos (by omega), if_pos trivial, w64 (by omega) (by omega)]
    exact ih k (i + 1) (by omega) (by omega) (by omega)
theorem longs_same (l : List Int) (k : Nat) (hl : l.length ≤ 4611686018427387904) (hk : l.length < k) : annuitykeep_Longs.f k l l = some true := by
  unfold annuitykeep_Longs.f
  rw [if_pos rfl]
  exact longs_l0 l hl l.length k 0 (by omega) (by omega) hk
/-! ### share.Split -/
def sumI : List Int → Int
  | [] => 0
  | a :: l => a + sumI l
theorem sumI_append (a b : List Int) : sumI (a ++ b) = sumI a + sumI b := by
  induction a with
  | nil => simp [sumI]
  | cons x a ih => simp only [List.cons_append, sumI, ih]; omega
theorem sumI_nonneg : ∀ (l : List Int), (∀ x ∈ l, 0 ≤ x) → 0 ≤ sumI l := by
  intro l
  induction l with
  | nil => intro _; exact Int.le_refl 0
  | cons a l ih => intro h; simp only [sumI]; have := h a (List.mem_cons_self ..); have := ih (fun x hx => h x (List.mem_cons_of_mem _ hx)); omega
theorem sumI_mem : ∀ (l : List Int), (∀ x ∈ l, 0 ≤ x) → ∀ x ∈ l, x ≤ sumI l := by
  intro l
  induction l with
  | nil => intro _ x hx; cases hx
  | cons a l ih =>
    intro h x hx
    have h1 := h a (List.mem_cons_self ..)
    have h2 := sumI_nonneg l (fun x hx => h x (List.mem_cons_of_mem _ hx))
    simp only [sumI]
    rcases List.mem_cons.1 hx with e | e
    · subst e; omega
    · have := ih (fun x hx => h x (List.mem_cons_of_mem _ hx)) x e; omega
theorem sum_go : ∀ (l : List Int) (s : Int), (∀ x ∈ l, gdm x) → gdm s → money_Sum.go l s = if s + sumI l ≤ 10000000000000 then (s + sumI l, 0) else (0, 14) := by
  intro l
  induction l with
  | nil => intro s _ hs; unfold gdm at hs; rw [show sumI [] = 0 from rfl, Int.add_zero, if_pos (by omega)]; rfl
  | cons a l ih =>
    intro s h hs
    have ha := h a (List.mem_cons_self ..)
    have hl := fun x hx => h x (List.mem_cons_of_mem _ hx)
    have h2 := sumI_nonneg l (fun x hx => (hl x hx).1)
    have e1 : isMoney s = true := by unfold isMoney; unfold gdm at hs; exact decide_eq_true (by omega)
    have e2 : isMoney a = true := by unfold isMoney; unfold gdm at ha; exact decide_eq_true (by omega)
    rw [show sumI (a :: l) = a + sumI l from rfl, ← Int.add_assoc]
    simp only [money_Sum.go]
    rw [e1, e2, Bool.true_and, Bool.true_and]
    by_cases c : s + a ≤ 10000000000000
    · have e3 : isMoney (s + a) = true := by unfold isMoney; unfold gdm at ha hs; exact decide_eq_true (by omega)
      rw [e3, if_pos rfl, ih (s + a) hl (by unfold gdm at *; omega)]
    · have e3 : isMoney (s + a) = false := by unfold isMoney; exact decide_eq_false (by omega)
      rw [e3, if_neg (by simp), if_neg (by omega)]
/-- The quotients, and what is left over of each. -/
def quoS (t S : Int) (l : List Int) : List Int := l.map (fun w => t * w / S)
def rstS (t S : Int) (l : List Int) : List Int := l.map (fun w => t * w % S)
theorem quo_rst (t S : Int) : ∀ l : List Int, t * sumI l = S * sumI (quoS t S l) + sumI (rstS t S l) := by
  intro l
  induction l with
  | nil => simp [sumI, quoS, rstS]
  | cons a l ih =>
    simp only [sumI, quoS, rstS, List.map_cons] at ih ⊢
    have := Int.mul_ediv_add_emod (t * a) S
    rw [Int.mul_add, Int.mul_add, ih]
    omega
theorem rst_nonneg {t S : Int} (hS : 0 < S) (l : List Int) : ∀ x ∈ rstS t S l, 0 ≤ x := by
  intro x hx
  obtain ⟨w, _, rfl⟩ := List.mem_map.1 hx
  exact Int.emod_nonneg _ (by omega)
theorem rst_lt {t S : Int} (hS : 0 < S) (l : List Int) : ∀ x ∈ rstS t S l, x ≤ S - 1 := by
  intro x hx
  obtain ⟨w, _, rfl⟩ := List.mem_map.1 hx
  have := Int.emod_lt_of_pos (t * w) hS
  omega
theorem sumI_le (B : Int) : ∀ l : List Int, (∀ x ∈ l, x ≤ B) → sumI l ≤ l.length * B := by
  intro l
  induction l with
  | nil => intro _; simp [sumI]
  | cons a l ih =>
    intro h
    have h1 := h a (List.mem_cons_self ..)
    have h2 := ih (fun x hx => h x (List.mem_cons_of_mem _ hx))
    simp only [sumI, List.length_cons]
    rw [Int.natCast_succ, Int.add_mul]
    omega
/-- How many get one more. -/
def lftS (t S : Int) (l : List Int) : Int := t - sumI (quoS t S l)
theorem lft_mul {t : Int} {l : List Int} : lftS t (sumI l) l * sumI l = sumI (rstS t (sumI l) l) := by
  have := quo_rst t (sumI l) l
  unfold lftS
  rw [Int.sub_mul, this, Int.mul_comm (sumI (quoS t (sumI l) l))]
  omega
theorem lft_nonneg {t : Int} {l : List Int} (hS : 0 < sumI l) : 0 ≤ lftS t (sumI l) l := by
  have h1 := lft_mul (t := t) (l := l)
  have h2 := sumI_nonneg _ (rst_nonneg (t := t) hS l)
  by_cases c : 0 ≤ lftS t (sumI l) l
  · exact c
  · have : lftS t (sumI l) l * sumI l ≤ (-1) * sumI l := Int.mul_le_mul_of_nonneg_right (by omega) (by omega)
    omega
/-- So many of the first ones as there are left over come to no more than that. -/
theorem le_of_mul {a b S : Int} (hS : 0 < S) (h : a * S ≤ b * S) : a ≤ b := Int.le_of_mul_le_mul_right h hS
theorem lft_le {t : Int} {l : List Int} (hS : 0 < sumI l) : lftS t (sumI l) l ≤ l.length := by
  have h1 := lft_mul (t := t) (l := l)
  have h2 := sumI_le _ _ (rst_lt (t := t) hS l)
  rw [← h1] at h2
  apply le_of_mul hS
  have e : (rstS t (sumI l) l).length = l.length := List.length_map _
  rw [e, Int.mul_sub] at h2
  omega
/-- Who gets one more. -/
def winS (t S : Int) (l : List Int) : List Nat := (plc (rstS t S l)).take (lftS t S l).toNat
/-- The parts. -/
def prtS (t S : Int) (l : List Int) : List Int := (List.range l.length).map (fun (j : Nat) => rd (quoS t S l) j + if j ∈ winS t S l then 1 else 0)
theorem rst_len (t S : Int) (l : List Int) : (rstS t S l).length = l.length := List.length_map _
theorem quo_len (t S : Int) (l : List Int) : (quoS t S l).length = l.length := List.length_map _
theorem prt_len (t S : Int) (l : List Int) : (prtS t S l).length = l.length := by unfold prtS; simp
theorem win_lt {t S : Int} {l : List Int} {j : Nat} (h : j ∈ winS t S l) : j < l.length := by
  have := (plc_perm (rstS t S l)).mem_iff.1 (List.mem_of_mem_take h)
  rw [List.mem_range, rst_len] at this
  exact this
theorem plc_nodup (l : List Int) : (plc l).Nodup := (plc_perm l).nodup_iff.2 List.nodup_range
theorem win_nodup (t S : Int) (l : List Int) : (winS t S l).Nodup := (List.take_sublist _ _).nodup (plc_nodup _)
theorem rd_map {f : Int → Int} (l : List Int) (j : Nat) (h : j < l.length) : rd (l.map f) j = f (rd l j) := by
  unfold rd; simp [List.getD_eq_getElem?_getD, h]
theorem rd_range {f : Nat → Int} {n j : Nat} (h : j < n) : rd ((List.range n).map f) j = f j := by
  unfold rd; simp [List.getD_eq_getElem?_getD, h]
theorem rd_set (l : List Int) (i j : Nat) (x : Int) (h : i < l.length) : rd (l.set i x) j = if j = i then x else rd l j := by
  unfold rd
  simp only [Int.toNat_natCast, List.getD_eq_getElem?_getD, List.getElem?_set]
  by_cases c : i = j
  · subst c; simp [h]
  · rw [if_neg c, if_neg (fun e => c e.symm)]
theorem ext_rd {a b : List Int} (h : a.length = b.length) (hr : ∀ j < a.length, rd a j = rd b j) : a = b := by
  apply List.ext_getElem h
  intro j h1 h2
  have := hr j h1
  unfold rd at this
  simpa [List.getD_eq_getElem?_getD, h1, h2] using this
/-- One more for each of these. -/
def updS (L : List Nat) (p : List Int) : List Int := L.foldl (fun p i => p.set i (rd p i + 1)) p
theorem upd_is : ∀ (L : List Nat) (p : List Int), L.Nodup → (∀ i ∈ L, i < p.length) → updS L p = (List.range p.length).map (fun (j : Nat) => rd p j + if j ∈ L then 1 else 0) := by
  intro L
  induction L with
  | nil =>
    intro p _ _
    apply ext_rd (by simp [updS])
    intro j hj
    have hj : j < p.length := hj
    rw [rd_range hj]; simp [updS]
  | cons a L ih =>
    intro p hn hp
    have ha := hp a (List.mem_cons_self ..)
    have hn2 := List.nodup_cons.1 hn
    show updS L (p.set a (rd p a + 1)) = _
    rw [ih (p.set a (rd p a + 1)) hn2.2 (fun i hi => by rw [List.length_set]; exact hp i (List.mem_cons_of_mem _ hi)), List.length_set]
    apply List.map_congr_left
    intro j hj
    rw [rd_set p a j _ ha]
    by_cases c : j = a
    · subst c; rw [if_pos rfl, if_neg hn2.1, if_pos (List.mem_cons_self ..)]; omega
    · rw [if_neg c]
      by_cases c2 : j ∈ L
      · rw [if_pos c2, if_pos (List.mem_cons_of_mem _ c2)]
      · rw [if_neg c2, if_neg (fun h => (List.mem_cons.1 h).elim c c2)]
theorem split_l1 (L : List Nat) (n : Nat) (hn : n ≤ 1000) (hLn : ∀ i ∈ L, i < n) (hLl : L.length ≤ n) : ∀ (d k j : Nat) (p : List Int), j + d = L.length → d < k → p.length = n → (∀ i : Nat, i < n → 0 ≤ rd p i ∧ rd p i + d ≤ 20000000000000) →
    share_Split.l1 k p (L.map (fun (x : Nat) => (x : Int))) (L.length : Int) (j : Int) = some (updS (L.drop j) p, 0) := by
  intro d
  induction d with
  | zero =>
    intro k j p hj hk hp hb
    obtain ⟨k, rfl⟩ : ∃ m, k = m + 1 := ⟨k - 1, by omega⟩
    simp only [share_Split.l1]
    rw [if_neg (by omega), List.drop_of_length_le (by omega)]
    rfl
  | succ d ih =>
    intro k j p hj hk hp hb
    obtain ⟨k, rfl⟩ : ∃ m, k = m + 1 := ⟨k - 1, by omega⟩
    have hjL : j < L.length := by omega
    have e : rd (L.map (fun (x : Nat) => (x : Int))) (j : Int) = ((L[j] : Nat) : Int) := by unfold rd; simp [List.getD_eq_getElem?_getD, hjL]
    have hi := hLn L[j] (List.getElem_mem hjL)
    have hb0 := hb L[j] hi
    simp only [share_Split.l1]
    rw [e, if_pos (by omega), if_pos (by omega), if_pos (by rw [List.length_map]; omega), if_pos (by omega), if_pos (by omega), Int.toNat_natCast, w64 (e := rd p ((L[j] : Nat) : Int) + 1) (by omega) (by omega), w64 (e := (j : Int) + 1) (by omega) (by omega),
      show (j : Int) + 1 = ((j + 1 : Nat) : Int) by omega, ih k (j + 1) _ (by omega) (by omega) (by rw [List.length_set]; exact hp) (fun i hin => by
        rw [rd_set p L[j] i _ (by omega)]
        have := hb i hin
        split <;> omega), List.drop_eq_getElem_cons hjL]
    rfl
/-- As far as the first loop has come. -/
def halfS (f : Int → Int) (l : List Int) (j : Nat) : List Int := (l.take j).map f ++ List.replicate (l.length - j) 0
theorem half_len (f : Int → Int) (l : List Int) {j : Nat} (h : j ≤ l.length) : (halfS f l j).length = l.length := by simp [halfS]; omega
theorem half_set (f : Int → Int) (l : List Int) {j : Nat} (h : j < l.length) : (halfS f l j).set j (f (rd l j)) = halfS f l (j + 1) := by
  unfold halfS
  rw [show l.length - j = (l.length - (j + 1)) + 1 by omega, List.replicate_succ, List.set_append_right _ _ (by simp; omega), List.take_add_one, List.map_append, List.append_assoc]
  have e : rd l j = l[j] := by unfold rd; simp [List.getD_eq_getElem?_getD, h]
  rw [e]
  simp [h, Nat.min_eq_left (Nat.le_of_lt h)]
theorem half_all (f : Int → Int) (l : List Int) : halfS f l l.length = l.map f := by simp [halfS]
theorem half_zero (f : Int → Int) (l : List Int) : halfS f l 0 = List.replicate l.length 0 := by simp [halfS]
theorem half_rd (f : Int → Int) (l : List Int) {j : Nat} (h : j < l.length) : rd (halfS f l (j + 1)) j = f (rd l j) := by
  rw [← half_set f l h, rd_set _ _ _ _ (by rw [half_len f l (by omega)]; exact h), if_pos rfl]
theorem quo_bd {t S w : Int} (ht : 0 ≤ t) (hw : 0 ≤ w) (hwS : w ≤ S) (hS : 0 < S) : 0 ≤ t * w / S ∧ t * w / S ≤ t := by
  have h1 : t * w ≤ t * S := Int.mul_le_mul_of_nonneg_left hwS ht
  have h2 : 0 ≤ t * w := Int.mul_nonneg ht hw
  refine ⟨Int.ediv_nonneg h2 (by omega), ?_⟩
  have := Int.ediv_le_ediv hS h1
  rwa [Int.mul_ediv_cancel _ (by omega)] at this
theorem split_div {t w S : Int} (ht : gdm t) (hw : gdm w) (hS : 0 < S) (hS2 : S ≤ 10000000000000) (hwS : w ≤ S) (k : Nat) (hk : 30 ≤ k) :
    money_Div.f k (t * w / 18446744073709551616) (t * w % 18446744073709551616) S = some (t * w / S, t * w % S, true) := by
  unfold gdm at ht hw
  have h2 : 0 ≤ t * w := Int.mul_nonneg ht.1 hw.1
  have h1 : t * w ≤ t * S := Int.mul_le_mul_of_nonneg_left hwS ht.1
  have h3 : t * S ≤ 10000000000000 * S := Int.mul_le_mul_of_nonneg_right ht.2 (by omega)
  rw [money_Div_is _ _ S k (by omega) (by omega) (by omega) (by omega) (by omega) hk]
  unfold divS
  rw [if_neg (by omega)]
  congr 2
  · congr 1; omega
  · congr 2; omega
theorem split_l0 (t : Int) (l : List Int) (ht : gdm t) (hl : l.length ≤ 1000) (hg : ∀ x ∈ l, gdm x) (hS : 0 < sumI l) (hS2 : sumI l ≤ 10000000000000) :
    ∀ (d k j : Nat), j + d = l.length → d + 2000 < k →
    share_Split.l0 k t (sumI l) (halfS (fun w => t * w / sumI l) l j) (halfS (fun w => t * w % sumI l) l j) (t - sumI (quoS t (sumI l) (l.take j))) l (l.length : Int) (j : Int) = some (prtS t (sumI l) l, 0) := by
  intro d
  have hn0 : 0 < l.length := by
    cases l with
    | nil => simp [sumI] at hS
    | cons a l => simp
  induction d with
  | zero =>
    intro k j hj hk
    obtain ⟨k, rfl⟩ : ∃ m, k = m + 1 := ⟨k - 1, by omega⟩
    obtain rfl : j = l.length := by omega
    simp only [share_Split.l0]
    rw [if_neg (by omega), half_all, half_all, List.take_length]
    show ((share_places_uint64.f k (rstS t (sumI l) l)).bind _) = _
    unfold share_places_uint64.f
    rw [if_pos (by rw [rst_len]; omega)]
    simp only [obind]
    have h1 := lft_nonneg (t := t) hS
    have h2 := lft_le (t := t) hS
    have e : t - sumI (quoS t (sumI l) l) = lftS t (sumI l) l := rfl
    have e3 : (plc (rstS t (sumI l) l)).length = l.length := by rw [(plc_perm _).length_eq, List.length_range, rst_len]
    rw [e, if_pos h1, if_pos (by rw [List.length_map, e3]; exact h2), ← List.map_take]
    show share_Split.l1 k (quoS t (sumI l) l) ((winS t (sumI l) l).map _) _ _ = _
    have hlen : (winS t (sumI l) l).length ≤ l.length := by unfold winS; rw [List.length_take, e3]; omega
    rw [List.length_map]
    have := split_l1 (winS t (sumI l) l) l.length hl (fun i hi => win_lt hi) hlen (winS t (sumI l) l).length k 0 (quoS t (sumI l) l) (by omega) (by omega) (quo_len _ _ _) (fun i hi => by
      unfold quoS
      rw [rd_map l i hi]
      have hm := rd_mem l i hi
      have hw := hg _ hm
      have := quo_bd ht.1 hw.1 (sumI_mem l (fun x hx => (hg x hx).1) _ hm) hS
      unfold gdm at ht
      omega)
    rw [List.drop_zero, upd_is _ _ (win_nodup _ _ _) (fun i hi => by rw [quo_len]; exact win_lt hi), quo_len] at this
    exact this
  | succ d ih =>
    intro k j hj hk
    obtain ⟨k, rfl⟩ : ∃ m, k = m + 1 := ⟨k - 1, by omega⟩
    have hjl : j < l.length := by omega
    have hm := rd_mem l j hjl
    have hw := hg _ hm
    have hwS := sumI_mem l (fun x hx => (hg x hx).1) _ hm
    have hq := quo_bd ht.1 hw.1 hwS hS
    have ht' := ht; have hw' := hw
    unfold gdm at ht' hw'
    have et : l.take (j + 1) = l.take j ++ [rd l j] := by
      rw [List.take_add_one]
      have e : rd l j = l[j] := by unfold rd; simp [List.getD_eq_getElem?_getD, hjl]
      rw [e]; simp [hjl]
    have es : sumI (quoS t (sumI l) (l.take (j + 1))) = sumI (quoS t (sumI l) (l.take j)) + t * rd l j / sumI l := by
      rw [et]; unfold quoS; rw [List.map_append, sumI_append]; simp only [List.map_cons, List.map_nil, sumI]; omega
    have hb1 : 0 ≤ sumI (quoS t (sumI l) (l.take j)) := sumI_nonneg _ (fun x hx => by
      obtain ⟨w, hw, rfl⟩ := List.mem_map.1 hx
      have hw2 := List.mem_of_mem_take hw
      exact (quo_bd ht.1 (hg w hw2).1 (sumI_mem l (fun x hx => (hg x hx).1) _ hw2) hS).1)
    have hb2 : sumI (quoS t (sumI l) (l.take j)) ≤ (quoS t (sumI l) (l.take j)).length * 10000000000000 := sumI_le _ _ (fun x hx => by
      obtain ⟨w, hw, rfl⟩ := List.mem_map.1 hx
      have hw2 := List.mem_of_mem_take hw
      have := (quo_bd ht.1 (hg w hw2).1 (sumI_mem l (fun x hx => (hg x hx).1) _ hw2) hS).2
      omega)
    rw [quo_len, List.length_take, Nat.min_eq_left (by omega)] at hb2
    simp only [share_Split.l0]
    rw [if_pos (by omega), if_pos (by omega), if_pos (by omega), wu_id ht'.1 (by omega), wu_id hw'.1 (by omega), wu_id (n := sumI l) (by omega) (by omega), money_Mul_is t (rd l j) ht'.1 (by omega) hw'.1 (by omega)]
    simp only [obind]
    rw [split_div ht hw hS hS2 hwS k (by omega)]
    simp only [obind]
    rw [half_len _ l (by omega), half_len _ l (by omega), if_pos (by omega), if_pos (by omega), w64 (e := t * rd l j / sumI l) (by omega) (by omega), Int.toNat_natCast, half_set (fun w => t * w / sumI l) l hjl, half_set (fun w => t * w % sumI l) l hjl, half_rd (fun w => t * w / sumI l) l hjl,
      w64 (e := t - sumI (quoS t (sumI l) (l.take j)) - t * rd l j / sumI l) (by omega) (by omega), w64 (e := (j : Int) + 1) (by omega) (by omega),
      show t - sumI (quoS t (sumI l) (l.take j)) - t * rd l j / sumI l = t - sumI (quoS t (sumI l) (l.take (j + 1))) by omega, show (j : Int) + 1 = ((j + 1 : Nat) : Int) by omega]
    exact ih k (j + 1) (by omega) (by omega)
/-- Whether it can be shared out. -/
def splitG (t : Int) (l : List Int) : Prop := gdm t ∧ l.length ≤ 1000 ∧ (∀ x ∈ l, gdm x) ∧ sumI l ≤ 10000000000000 ∧ 0 < sumI l
instance (t : Int) (l : List Int) : Decidable (splitG t l) := by unfold splitG; infer_instance
/-- What Split tells. -/
def splitF (t : Int) (l : List Int) : List Int × Int := if splitG t l then (prtS t (sumI l) l, 0) else ([], 1)
theorem split_is (t : Int) (l : List Int) (k : Nat) (hl : l.length ≤ 2000) (hk : 3010 ≤ k) : share_Split.f k t l = some (splitF t l) := by
  obtain ⟨k, rfl⟩ : ∃ m, k = m + 1 := ⟨k - 1, by omega⟩
  have e0 : ∀ S, share_Split.j0 (k + 1) t l S true = some ([], 1) := fun S => by simp only [share_Split.j0, if_true]
  unfold share_Split.f money_Sum.f splitF
  rw [if_pos (by omega), sgood_is _ t l (by omega)]
  simp only [obind, decide_eq_true_eq]
  by_cases c : gdm t ∧ l.length ≤ 1000 ∧ ∀ x ∈ l, gdm x
  case neg => rw [if_neg c, if_neg (fun h : splitG t l => c ⟨h.1, h.2.1, h.2.2.1⟩), e0]
  obtain ⟨ht, hn, hg⟩ := c
  rw [if_pos ⟨ht, hn, hg⟩, sum_go l 0 hg (by unfold gdm; omega), Int.zero_add]
  by_cases c1 : sumI l ≤ 10000000000000
  case neg => rw [if_neg c1, if_neg (fun h : splitG t l => c1 h.2.2.2.1)]; rw [if_neg (by simp), e0]
  rw [if_pos c1, if_pos rfl]
  by_cases c2 : 0 < sumI l
  case neg => rw [if_neg (fun h : splitG t l => c2 h.2.2.2.2), decide_eq_true (by omega), e0]
  rw [if_pos ⟨ht, hn, hg, c1, c2⟩, decide_eq_false (by omega)]
  simp only [share_Split.j0]
  rw [if_neg (by simp), if_pos (by omega), if_pos (by omega), Int.toNat_natCast]
  have := split_l0 t l ht hn hg c2 c1 l.length k 0 (by omega) (by omega)
  rw [half_zero, half_zero, List.take_zero] at this
  simpa [quoS, sumI] using this
end Go.Proofs.Ytlhcohipnieidaa.PureSh
