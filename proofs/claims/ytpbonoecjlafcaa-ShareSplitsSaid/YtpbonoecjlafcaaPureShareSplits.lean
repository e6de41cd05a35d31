/- ShareSplits: money shared out by any weights is what the reference's search shares out, or both tell that it can't be; for every input. -/
import Derived.Test.YtpbonoecjlafcaaZs
import Derived.Test.YtpbonoecjlafcaaPx10
import Derived.Test.YtpbonoecjlafcaaShareEv
namespace Go.Proofs.Ytpbonoecjlafcaa.Pure
set_option linter.unusedVariables false
open Go.RowKit Go.Proofs.Ytpbonoecjlafcaa.P Go.Proofs.YtpbonoecjlafcaaW.PrintWords Go.Proofs.YtpbonoecjlafcaaW.PrintLast Go.Proofs.YtpbonoecjlafcaaW.PrintMore Go.Proofs.Ytpbonoecjlafcaa.PlainM
/-! ### The reference's search -/
/-- What has been found among the first j: none is left, or the first one in the order of those that are left. -/
def bstOk (r : List Int) (W : List Nat) (j : Nat) (b : Int) : Prop := (b = -1 ∧ ∀ i : Nat, i < j → i ∈ W) ∨ ∃ m : Nat, b = (m : Int) ∧ m < j ∧ m ∉ W ∧ ∀ i : Nat, i < j → i ∉ W → i = m ∨ plR r m i
theorem bst_zero (r : List Int) (W : List Nat) : bstOk r W 0 (-1) := .inl ⟨rfl, fun i h => by omega⟩
theorem bst_got {r : List Int} {W : List Nat} {j : Nat} {b : Int} (h : bstOk r W j b) (hj : j ∈ W) : bstOk r W (j + 1) b := by
  rcases h with ⟨h1, h2⟩ | ⟨m, h1, h2, h3, h4⟩
  · exact .inl ⟨h1, fun i hi => by
      by_cases c : i = j
      · rw [c]; exact hj
      · exact h2 i (by omega)⟩
  · refine .inr ⟨m, h1, by omega, h3, fun i hi hw => ?_⟩
    by_cases c : i = j
    · rw [c] at hw; exact absurd hj hw
    · exact h4 i (by omega) hw
theorem bst_first {r : List Int} {W : List Nat} {j : Nat} {b : Int} (h : bstOk r W j b) (hj : j ∉ W) (hb : b < 0) : bstOk r W (j + 1) (j : Int) := by
  rcases h with ⟨h1, h2⟩ | ⟨m, h1, _⟩
  · refine .inr ⟨j, rfl, by omega, hj, fun i hi hw => ?_⟩
    by_cases c : i = j
    · exact .inl c
    · exact absurd (h2 i (by omega)) hw
  · omega
theorem bst_better {r : List Int} {W : List Nat} {j m : Nat} (h : bstOk r W j (m : Int)) (hj : j ∉ W) (hb : rd r j > rd r m) : bstOk r W (j + 1) (j : Int) := by
  rcases h with ⟨h1, h2⟩ | ⟨m', h1, h2, h3, h4⟩
  · omega
  · obtain rfl : m = m' := by omega
    have p : plR r j m := .inl hb
    refine .inr ⟨j, rfl, by omega, hj, fun i hi hw => ?_⟩
    by_cases c : i = j
    · exact .inl c
    · rcases h4 i (by omega) hw with e | e
      · rw [e]; exact .inr p
      · exact .inr (plR_trans p e)
theorem bst_stays {r : List Int} {W : List Nat} {j m : Nat} (h : bstOk r W j (m : Int)) (hj : j ∉ W) (hb : ¬ rd r j > rd r m) : bstOk r W (j + 1) (m : Int) := by
  rcases h with ⟨h1, h2⟩ | ⟨m', h1, h2, h3, h4⟩
  · omega
  · obtain rfl : m = m' := by omega
    refine .inr ⟨m, rfl, by omega, h3, fun i hi hw => ?_⟩
    by_cases c : i = j
    · right; rw [c]; unfold plR; omega
    · exact h4 i (by omega) hw
theorem bst_lt {r : List Int} {W : List Nat} {j : Nat} {b : Int} (h : bstOk r W j b) : b < 0 ∨ ∃ m : Nat, b = m ∧ m < j := by
  rcases h with ⟨h1, h2⟩ | ⟨m, h1, h2, _⟩
  · left; omega
  · exact .inr ⟨m, h1, h2⟩
/-- The search finds the next one. -/
theorem bst_end {r : List Int} {m : Nat} (hm : m < (plc r).length) {b : Int} (h : bstOk r ((plc r).take m) r.length b) : b = (((plc r)[m] : Nat) : Int) := by
  have hp := plc_pw r
  have nd := plc_nodup r
  have hx : (plc r)[m] < r.length := by have := (plc_perm r).mem_iff.1 (List.getElem_mem hm); rwa [List.mem_range] at this
  have hin : (plc r)[m] ∉ (plc r).take m := by
    intro hc
    obtain ⟨p, hpl, e⟩ := List.getElem_of_mem hc
    rw [List.length_take] at hpl
    rw [List.getElem_take] at e
    have := (List.getElem_inj nd).1 e
    omega
  rcases h with ⟨h1, h2⟩ | ⟨q, h1, h2, h3, h4⟩
  · exact absurd (h2 _ hx) hin
  · rw [h1]
    by_cases c : (plc r)[m] = q
    · rw [c]
    · exfalso
      have hq : q ∈ plc r := (plc_perm r).mem_iff.2 (List.mem_range.2 h2)
      rw [← List.take_append_drop m (plc r), List.drop_eq_getElem_cons hm] at hp hq
      have hq2 : q ∈ (plc r).drop (m + 1) := by
        rcases List.mem_append.1 hq with e | e
        · exact absurd e h3
        · rcases List.mem_cons.1 e with e | e
          · exact absurd e.symm c
          · exact e
      have o := (List.pairwise_cons.1 (List.pairwise_append.1 hp).2.1).1 q hq2
      rcases h4 _ hx hin with e | e
      · exact c e
      · exact plR_irrefl o e
/-! ### The reference's Split -/
theorem rdOf_set (G : List Bool) (i j : Nat) (h : i < G.length) : rdOf false (G.set i true) (j : Int) = (decide (j = i) || rdOf false G (j : Int)) := by
  unfold rdOf
  simp only [Int.toNat_natCast, List.getD_eq_getElem?_getD, List.getElem?_set]
  by_cases c : i = j
  · subst c; simp [h]
  · rw [if_neg c, decide_eq_false (fun e => c e.symm), Bool.false_or]
/-- Who has got one more, marked. -/
def marks (G : List Bool) (W : List Nat) : Prop := G.length = 1000 ∧ ∀ i : Nat, i < 1000 → rdOf false G (i : Int) = decide (i ∈ W)
theorem rdOf_rep (n i : Nat) : rdOf false (List.replicate n false) (i : Int) = false := by
  unfold rdOf
  rw [List.getD_eq_getElem?_getD, List.getElem?_replicate]
  split <;> rfl
theorem marks_zero : marks (List.replicate 1000 false) [] := ⟨List.length_replicate, fun i h => by rw [rdOf_rep]; exact (decide_eq_false (by simp)).symm⟩
theorem marks_set {G : List Bool} {W : List Nat} {p : Nat} (h : marks G W) (hp : p < 1000) : marks (G.set p true) (W ++ [p]) := by
  refine ⟨by rw [List.length_set]; exact h.1, fun i hi => ?_⟩
  rw [rdOf_set G p i (by rw [h.1]; exact hp), h.2 i hi]
  by_cases c : i = p
  · subst c; simp
  · simp [c]
section
variable {t : Int} {l : List Int}
theorem upd_snoc (L : List Nat) (a : Nat) (p : List Int) : updS (L ++ [a]) p = (updS L p).set a (rd (updS L p) a + 1) := by
  unfold updS; rw [List.foldl_append]; rfl
theorem plc_length (r : List Int) : (plc r).length = r.length := by rw [(plc_perm r).length_eq, List.length_range]
theorem plc_at {r : List Int} {m : Nat} (h : m < (plc r).length) : (plc r)[m] < r.length := by
  have := (plc_perm r).mem_iff.1 (List.getElem_mem h)
  rwa [List.mem_range] at this
theorem take_snoc {r : List Int} {m : Nat} (h : m < (plc r).length) : (plc r).take (m + 1) = (plc r).take m ++ [(plc r)[m]] := by
  rw [List.take_add_one]; simp [h]
theorem take_in {r : List Int} {m i : Nat} (h : i ∈ (plc r).take m) : i < r.length := by
  have := (plc_perm r).mem_iff.1 (List.mem_of_mem_take h)
  rwa [List.mem_range] at this
theorem upd_len (r : List Int) (m : Nat) (q : List Int) (h : q.length = r.length) : (updS ((plc r).take m) q).length = q.length := by
  rw [upd_is _ _ ((List.take_sublist _ _).nodup (plc_nodup r)) (fun i hi => by rw [h]; exact take_in hi)]
  simp
theorem upd_bd (r : List Int) (m : Nat) (q : List Int) (h : q.length = r.length) (hb : ∀ i : Nat, i < q.length → 0 ≤ rd q i ∧ rd q i ≤ 10000000000000) (i : Nat) (hi : i < q.length) :
    0 ≤ rd (updS ((plc r).take m) q) i ∧ rd (updS ((plc r).take m) q) i ≤ 10000000000001 := by
  rw [upd_is _ _ ((List.take_sublist _ _).nodup (plc_nodup r)) (fun i hi => by rw [h]; exact take_in hi), rd_range hi]
  have := hb i hi
  split <;> omega
/-- The search, and what follows it. -/
theorem rsplit_l3 (r q : List Int) (m : Nat) (x10 : Int) (G : List Bool) (res : List Int × Int) (R : Nat) (hr : r.length ≤ 1000) (hq : q.length = r.length) (hb : ∀ i : Nat, i < q.length → 0 ≤ rd q i ∧ rd q i ≤ 10000000000000)
    (hm : m < (plc r).length) (hx : 0 < x10 ∧ x10 ≤ 2000) (hG : marks G ((plc r).take m))
    (hn : ∀ k G', R ≤ k → marks G' ((plc r).take (m + 1)) → annuityref02_Split.l2 k (updS ((plc r).take (m + 1)) q) r (x10 - 1) G' = some res) : ∀ (d k j : Nat) (b : Int), j + d = r.length → d + R < k → bstOk r ((plc r).take m) j b →
    annuityref02_Split.l3 k (updS ((plc r).take m) q) r x10 G b (j : Int) = some res := by
  intro d
  induction d with
  | zero =>
    intro k j b hj hk hbs
    obtain ⟨k, rfl⟩ : ∃ m, k = m + 1 := ⟨k - 1, by omega⟩
    obtain rfl : j = r.length := by omega
    have e := bst_end hm hbs
    have hp := plc_at hm
    have hu := upd_bd r m q hq hb (plc r)[m] (by omega)
    simp only [annuityref02_Split.l3]
    rw [if_neg (by omega), e, if_neg (by omega), if_pos (by omega), if_pos (by rw [hG.1]; omega), if_pos (by rw [upd_len r m q hq]; omega), Int.toNat_natCast, w64 (e := rd (updS ((plc r).take m) q) (((plc r)[m] : Nat) : Int) + 1) (by omega) (by omega), w64 (e := x10 - 1) (by omega) (by omega), ← upd_snoc, ← take_snoc hm]
    exact hn k _ (by omega) (by rw [take_snoc hm]; exact marks_set hG (by omega))
  | succ d ih =>
    intro k j b hj hk hbs
    obtain ⟨k, rfl⟩ : ∃ m, k = m + 1 := ⟨k - 1, by omega⟩
    have hjl : j < r.length := by omega
    simp only [annuityref02_Split.l3]
    rw [if_pos (by omega), if_pos (by omega), if_pos (by rw [hG.1]; omega), w64 (e := (j : Int) + 1) (by omega) (by omega), show (j : Int) + 1 = ((j + 1 : Nat) : Int) by omega, hG.2 j (by omega)]
    by_cases c : j ∈ (plc r).take m
    · rw [decide_eq_true c, if_pos rfl]
      exact ih k (j + 1) b (by omega) (by omega) (bst_got hbs c)
    · rw [decide_eq_false c, if_neg (by simp)]
      by_cases c2 : b < 0
      · rw [if_pos c2]
        exact ih k (j + 1) _ (by omega) (by omega) (bst_first hbs c c2)
      · rw [if_neg c2]
        obtain ⟨p, rfl, hp⟩ : ∃ p : Nat, b = p ∧ p < j := by
          rcases bst_lt hbs with h | h
          · exact absurd h c2
          · exact h
        rw [if_pos (by omega), if_pos (by omega)]
        by_cases c3 : rd r j > rd r p
        · rw [if_pos c3]
          exact ih k (j + 1) _ (by omega) (by omega) (bst_better hbs c c3)
        · rw [if_neg c3]
          exact ih k (j + 1) _ (by omega) (by omega) (bst_stays hbs c c3)
theorem rsplit_l2 (r q : List Int) (L : Nat) (hr : r.length ≤ 1000) (hq : q.length = r.length) (hb : ∀ i : Nat, i < q.length → 0 ≤ rd q i ∧ rd q i ≤ 10000000000000) (hL : L ≤ r.length) : ∀ (e m : Nat), m + e = L → ∀ (k : Nat) (G : List Bool), e * 1100 + 10 ≤ k → marks G ((plc r).take m) →
    annuityref02_Split.l2 k (updS ((plc r).take m) q) r (e : Int) G = some (updS ((plc r).take L) q, 0) := by
  intro e
  induction e with
  | zero =>
    intro m hm k G hk hG
    obtain ⟨k, rfl⟩ : ∃ m, k = m + 1 := ⟨k - 1, by omega⟩
    obtain rfl : m = L := by omega
    simp only [annuityref02_Split.l2]
    rw [if_neg (by omega)]
  | succ e ih =>
    intro m hm k G hk hG
    obtain ⟨k, rfl⟩ : ∃ m, k = m + 1 := ⟨k - 1, by omega⟩
    simp only [annuityref02_Split.l2]
    rw [if_pos (by omega)]
    have := rsplit_l3 r q m ((e + 1 : Nat) : Int) G (updS ((plc r).take L) q, 0) (e * 1100 + 10) hr hq hb (by rw [plc_length]; omega) ⟨by omega, by omega⟩ hG (fun k G' h1 h2 => by
      rw [show ((e + 1 : Nat) : Int) - 1 = (e : Int) by omega]
      exact ih (m + 1) (by omega) k G' h1 h2) r.length k 0 (-1) (by omega) (by omega) (bst_zero _ _)
    exact this
end
theorem rsplit_div {t w S : Int} (ht : gdm t) (hw : gdm w) (hS : 0 < S) (hS2 : S ≤ 10000000000000) (hwS : w ≤ S) (k : Nat) (hk : 70 ≤ k) :
    annuityref01_Div.f k (t * w / 18446744073709551616) (t * w % 18446744073709551616) S = some (t * w / S, t * w % S, true) := by
  unfold gdm at ht hw
  have h2 : 0 ≤ t * w := Int.mul_nonneg ht.1 hw.1
  have h1 : t * w ≤ t * S := Int.mul_le_mul_of_nonneg_left hwS ht.1
  have h3 : t * S ≤ 10000000000000 * S := Int.mul_le_mul_of_nonneg_right ht.2 (by omega)
  rw [ref_Div_is _ _ S k (by omega) (by omega) (by omega) (by omega) (by omega) hk]
  unfold divS
  rw [if_neg (by omega)]
  congr 2
  · congr 1; omega
  · congr 2; omega
theorem rsplit_l1 (t : Int) (l : List Int) (ht : gdm t) (hl : l.length ≤ 1000) (hg : ∀ x ∈ l, gdm x) (hS : 0 < sumI l) (hS2 : sumI l ≤ 10000000000000) :
    ∀ (d k j : Nat), j + d = l.length → d + 1200000 < k →
    annuityref02_Split.l1 k t l (sumI l) (quoS t (sumI l) (l.take j)) (rstS t (sumI l) (l.take j)) (t - sumI (quoS t (sumI l) (l.take j))) (j : Int) = some (prtS t (sumI l) l, 0) := by
  intro d
  have qb : ∀ i : Nat, i < (quoS t (sumI l) l).length → 0 ≤ rd (quoS t (sumI l) l) i ∧ rd (quoS t (sumI l) l) i ≤ 10000000000000 := fun i hi => by
    rw [quo_len] at hi
    unfold quoS
    rw [rd_map l i hi]
    have hm := rd_mem l i hi
    have := quo_bd ht.1 (hg _ hm).1 (sumI_mem l (fun x hx => (hg x hx).1) _ hm) hS
    unfold gdm at ht
    omega
  induction d with
  | zero =>
    intro k j hj hk
    obtain ⟨k, rfl⟩ : ∃ m, k = m + 1 := ⟨k - 1, by omega⟩
    obtain rfl : j = l.length := by omega
    simp only [annuityref02_Split.l1]
    rw [if_neg (by omega), if_pos (by omega), List.take_length]
    have h1 := lft_nonneg (t := t) hS
    have h2 := lft_le (t := t) hS
    have e : t - sumI (quoS t (sumI l) l) = ((lftS t (sumI l) l).toNat : Int) := by
      show lftS t (sumI l) l = _
      omega
    rw [e]
    have := rsplit_l2 (rstS t (sumI l) l) (quoS t (sumI l) l) (lftS t (sumI l) l).toNat (by rw [rst_len]; exact hl) (by rw [rst_len, quo_len]) qb (by rw [rst_len]; omega) (lftS t (sumI l) l).toNat 0 (by omega) k (List.replicate 1000 false) (by omega) marks_zero
    rw [List.take_zero] at this
    have e2 : updS [] (quoS t (sumI l) l) = quoS t (sumI l) l := rfl
    rw [e2] at this
    rw [this]
    congr 2
    show updS (winS t (sumI l) l) _ = _
    rw [upd_is _ _ (win_nodup _ _ _) (fun i hi => by rw [quo_len]; exact win_lt hi), quo_len]
    rfl
  | succ d ih =>
    intro k j hj hk
    obtain ⟨k, rfl⟩ : ∃ m, k = m + 1 := ⟨k - 1, by omega⟩
    have hjl : j < l.length := by omega
    have hm := rd_mem l j hjl
    have hw := hg _ hm
    have hwS := sumI_mem l (fun x hx => (hg x hx).1) _ hm
    have hq := quo_bd ht.1 hw.1 hwS hS
    have ht' := ht; have hw' := hw
    unfold gdm at ht' hw'
    have et : l.take (j + 1) = l.take j ++ [rd l j] := by
      rw [List.take_add_one]
      have e : rd l j = l[j] := by unfold rd; simp [List.getD_eq_getElem?_getD, hjl]
      rw [e]; simp [hjl]
    have eq : quoS t (sumI l) (l.take (j + 1)) = quoS t (sumI l) (l.take j) ++ [t * rd l j / sumI l] := by rw [et]; unfold quoS; rw [List.map_append]; rfl
    have er : rstS t (sumI l) (l.take (j + 1)) = rstS t (sumI l) (l.take j) ++ [t * rd l j % sumI l] := by rw [et]; unfold rstS; rw [List.map_append]; rfl
    have es : sumI (quoS t (sumI l) (l.take (j + 1))) = sumI (quoS t (sumI l) (l.take j)) + t * rd l j / sumI l := by rw [eq, sumI_append]; simp [sumI]
    have hb1 : 0 ≤ sumI (quoS t (sumI l) (l.take j)) := sumI_nonneg _ (fun x hx => by
      obtain ⟨w, hw, rfl⟩ := List.mem_map.1 hx
      have hw2 := List.mem_of_mem_take hw
      exact (quo_bd ht.1 (hg w hw2).1 (sumI_mem l (fun x hx => (hg x hx).1) _ hw2) hS).1)
    have hb2 : sumI (quoS t (sumI l) (l.take j)) ≤ (quoS t (sumI l) (l.take j)).length * 10000000000000 := sumI_le _ _ (fun x hx => by
      obtain ⟨w, hw, rfl⟩ := List.mem_map.1 hx
      have hw2 := List.mem_of_mem_take hw
      have := (quo_bd ht.1 (hg w hw2).1 (sumI_mem l (fun x hx => (hg x hx).1) _ hw2) hS).2
      omega)
    rw [quo_len, List.length_take, Nat.min_eq_left (by omega)] at hb2
    simp only [annuityref02_Split.l1]
    rw [if_pos (by omega), if_pos (by omega), wu_id ht'.1 (by omega), wu_id hw'.1 (by omega), wu_id (n := sumI l) (by omega) (by omega), ref_Mul_is t (rd l j) ht'.1 (by omega) hw'.1 (by omega)]
    simp only [obind]
    rw [rsplit_div ht hw hS hS2 hwS k (by omega)]
    simp only [obind]
    rw [quo_len, rst_len, List.length_take, Nat.min_eq_left (by omega), if_pos (by omega), if_pos (by omega), w64 (e := t * rd l j / sumI l) (by omega) (by omega), ← eq, ← er,
      w64 (e := t - sumI (quoS t (sumI l) (l.take j)) - t * rd l j / sumI l) (by omega) (by omega), w64 (e := (j : Int) + 1) (by omega) (by omega),
      show t - sumI (quoS t (sumI l) (l.take j)) - t * rd l j / sumI l = t - sumI (quoS t (sumI l) (l.take (j + 1))) by omega, show (j : Int) + 1 = ((j + 1 : Nat) : Int) by omega]
    exact ih k (j + 1) (by omega) (by omega)
/-- What the sum's loop comes to. -/
theorem rsplit_l0 (t : Int) (l : List Int) (ht : gdm t) (hl : l.length ≤ 1000) : ∀ (d k j : Nat), j + d = l.length → d + 1300000 < k → (∀ x ∈ l.take j, gdm x) → sumI (l.take j) ≤ 10000000000000 →
    annuityref02_Split.l0 k t l (sumI (l.take j)) (j : Int) = some (if (∀ x ∈ l, gdm x) ∧ sumI l ≤ 10000000000000 ∧ 0 < sumI l then (prtS t (sumI l) l, 0) else ([], 1)) := by
  intro d
  induction d with
  | zero =>
    intro k j hj hk hg hs
    obtain ⟨k, rfl⟩ : ∃ m, k = m + 1 := ⟨k - 1, by omega⟩
    obtain rfl : j = l.length := by omega
    rw [List.take_length] at hg hs ⊢
    simp only [annuityref02_Split.l0]
    rw [if_neg (by omega)]
    have h0 := sumI_nonneg l (fun x hx => (hg x hx).1)
    by_cases c : sumI l = 0
    · rw [if_pos c, if_neg (by omega)]
    · rw [if_neg c, if_pos ⟨hg, hs, by omega⟩]
      have := rsplit_l1 t l ht hl hg (by omega) hs l.length k 0 (by omega) (by omega)
      rw [List.take_zero] at this
      have e : t - sumI (quoS t (sumI l) []) = t := by simp [quoS, sumI]
      rw [e] at this
      exact this
  | succ d ih =>
    intro k j hj hk hg hs
    obtain ⟨k, rfl⟩ : ∃ m, k = m + 1 := ⟨k - 1, by omega⟩
    have hjl : j < l.length := by omega
    have h0 := sumI_nonneg (l.take j) (fun x hx => (hg x hx).1)
    have et : l.take (j + 1) = l.take j ++ [rd l j] := by
      rw [List.take_add_one]
      have e : rd l j = l[j] := by unfold rd; simp [List.getD_eq_getElem?_getD, hjl]
      rw [e]; simp [hjl]
    have es : sumI (l.take (j + 1)) = sumI (l.take j) + rd l j := by rw [et, sumI_append]; simp [sumI]
    simp only [annuityref02_Split.l0]
    rw [if_pos (by omega), if_pos (by omega), rgood_is]
    simp only [obind]
    by_cases c : gdm (rd l j)
    · have c' := c
      unfold gdm at c'
      rw [decide_eq_true c, if_pos rfl, w64 (e := sumI (l.take j) + rd l j) (by omega) (by omega), rgood_is, ← es]
      simp only [obind]
      by_cases c2 : gdm (sumI (l.take (j + 1)))
      · rw [decide_eq_true c2, if_pos rfl, w64 (e := (j : Int) + 1) (by omega) (by omega), show (j : Int) + 1 = ((j + 1 : Nat) : Int) by omega]
        exact ih k (j + 1) (by omega) (by omega) (fun x hx => by
          rw [et] at hx
          rcases List.mem_append.1 hx with h | h
          · exact hg x h
          · obtain rfl := List.mem_singleton.1 h; exact c) c2.2
      · rw [decide_eq_false c2, if_neg (by simp), if_neg]
        rintro ⟨h1, h2, _⟩
        apply c2
        have e : sumI l = sumI (l.take (j + 1)) + sumI (l.drop (j + 1)) := by rw [← sumI_append, List.take_append_drop]
        have := sumI_nonneg (l.drop (j + 1)) (fun x hx => (h1 x (List.mem_of_mem_drop hx)).1)
        unfold gdm
        omega
    · rw [decide_eq_false c, if_neg (by simp), if_neg (fun h => c (h.1 _ (rd_mem l j hjl)))]
theorem rsplit_is (t : Int) (l : List Int) (k : Nat) (hl : l.length ≤ 1200) (hk : 1400000 ≤ k) : annuityref02_Split.f k t l = some (splitF t l) := by
  obtain ⟨k, rfl⟩ : ∃ m, k = m + 1 := ⟨k - 1, by omega⟩
  have e0 : annuityref02_Split.j0 (k + 1) t l true = some ([], 1) := by simp only [annuityref02_Split.j0, if_true]
  unfold annuityref02_Split.f splitF
  rw [rgood_is]
  simp only [obind, decide_eq_true_eq]
  by_cases ht : gdm t
  case neg => rw [if_neg ht, if_neg (fun h : splitG t l => ht h.1)]; exact e0
  rw [if_pos ht]
  by_cases n0 : (l.length : Int) < 1
  · rw [if_pos n0, if_neg (fun h : splitG t l => by
      have e : l = [] := List.eq_nil_of_length_eq_zero (by omega)
      have := h.2.2.2.2
      rw [e] at this
      simp [sumI] at this)]
    exact e0
  rw [if_neg n0]
  by_cases n : l.length ≤ 1000
  case neg => rw [decide_eq_true (by omega), if_neg (fun h : splitG t l => n h.2.1)]; exact e0
  rw [decide_eq_false (by omega)]
  simp only [annuityref02_Split.j0]
  rw [if_neg (by simp)]
  have := rsplit_l0 t l ht n l.length k 0 (by omega) (by omega) (by simp) (by simp [sumI])
  rw [List.take_zero] at this
  refine this.trans ?_
  by_cases c : (∀ x ∈ l, gdm x) ∧ sumI l ≤ 10000000000000 ∧ 0 < sumI l
  · rw [if_pos c, if_pos (show splitG t l from ⟨ht, n, c.1, c.2.1, c.2.2⟩)]
  · rw [if_neg c, if_neg (fun h : splitG t l => c ⟨h.2.2.1, h.2.2.2.1, h.2.2.2.2⟩)]
theorem ShareSplits : annuitylaw02_ShareSplits.Pure := by
  intro t l _ _ _ _
  obtain ⟨k, hk⟩ : ∃ k : Nat, 1500000 ≤ k := ⟨_, Nat.le_refl _⟩
  refine ⟨k, ?_⟩
  unfold annuitylaw02_ShareSplits.f
  by_cases c : (l.length : Int) > 1200
  · rw [if_pos c, wakes02 k (by omega)]; rfl
  rw [if_neg c]
  have sl := splitF_len t l
  simp only [obind, List.nil_append, List.length_nil]
  rw [if_pos (by omega), split_is t l k (by omega) (by omega)]
  simp only [obind]
  rw [rsplit_is t l k (by omega) (by omega)]
  simp only [obind]
  rw [longs_same _ k (by omega) (by omega)]
  simp only [obind, if_true]
  rw [longs_same _ k (by omega) (by omega)]
  simp only [obind, if_true]
  rw [wakes02 k (by omega)]
  rfl
end Go.Proofs.Ytpbonoecjlafcaa.Pure
