/- ShareScaled: weights that are all so many times as great share out the same; a weight of 0 more changes nothing for the others; for every input. -/
import Derived.Test.YtpbonoecjlafcaaPx12
import Derived.Test.YtpbonoecjlafcaaShareEv
namespace Go.Proofs.Ytpbonoecjlafcaa.Pure
set_option linter.unusedVariables false
open Go.RowKit Go.Proofs.Ytpbonoecjlafcaa.P Go.Proofs.YtpbonoecjlafcaaW.PrintWords Go.Proofs.YtpbonoecjlafcaaW.PrintLast Go.Proofs.YtpbonoecjlafcaaW.PrintMore Go.Proofs.Ytpbonoecjlafcaa.PlainM
theorem wfu16 {n : Int} (h : (Lit.int .u16 n).wf = true) : 0 ≤ n ∧ n ≤ 65535 := by
  simp only [Lit.wf, Bool.and_eq_true, decide_eq_true_eq] at h; exact h
theorem wfu8' {n : Int} (h : (Lit.int .u8 n).wf = true) : 0 ≤ n ∧ n ≤ 255 := by
  simp only [Lit.wf, Bool.and_eq_true, decide_eq_true_eq] at h; exact h
def sc (c : Int) (l : List Int) : List Int := l.map (fun x => x * c)
theorem sc_len (c : Int) (l : List Int) : (sc c l).length = l.length := List.length_map _
theorem rd_sc (c : Int) (l : List Int) (x : Nat) : rd (sc c l) x = rd l x * c := by
  by_cases h : x < l.length
  · exact rd_map l x h
  · unfold rd sc; simp [List.getD_eq_getElem?_getD, h]
theorem plc_sc {c : Int} (hc : 0 < c) (l : List Int) : plc (sc c l) = plc l := by
  symm
  apply plc_unique
  · rw [sc_len]; exact plc_perm l
  · refine (plc_pw l).imp ?_
    intro a b h
    unfold plR at h ⊢
    rw [rd_sc, rd_sc]
    rcases h with h | ⟨h, h2⟩
    · left; exact Int.mul_lt_mul_of_pos_right h hc
    · right; rw [h]; exact ⟨rfl, h2⟩
theorem sumI_sc (c : Int) : ∀ l : List Int, sumI (sc c l) = sumI l * c := by
  intro l
  induction l with
  | nil => simp [sumI, sc]
  | cons a l ih => simp only [sumI, sc, List.map_cons] at ih ⊢; rw [ih, Int.add_mul]
theorem quo_sc {c : Int} (hc : 0 < c) (t S : Int) (l : List Int) : quoS t (S * c) (sc c l) = quoS t S l := by
  unfold quoS sc
  rw [List.map_map]
  apply List.map_congr_left
  intro x _
  show t * (x * c) / (S * c) = t * x / S
  rw [← Int.mul_assoc, Int.mul_ediv_mul_of_pos_left _ _ hc]
theorem rst_sc {c : Int} (hc : 0 < c) (t S : Int) (l : List Int) : rstS t (S * c) (sc c l) = sc c (rstS t S l) := by
  unfold rstS sc
  rw [List.map_map, List.map_map]
  apply List.map_congr_left
  intro x _
  show t * (x * c) % (S * c) = t * x % S * c
  rw [← Int.mul_assoc, Int.mul_comm (t * x) c, Int.mul_comm S c, Int.mul_emod_mul_of_pos _ _ hc, Int.mul_comm]
theorem prt_sc {c : Int} (hc : 0 < c) (t S : Int) (l : List Int) : prtS t (S * c) (sc c l) = prtS t S l := by
  unfold prtS winS lftS
  rw [quo_sc hc, rst_sc hc, plc_sc hc, sc_len]
theorem rd_app (l : List Int) (y : Int) {x : Nat} (h : x < l.length) : rd (l ++ [y]) x = rd l x := by
  unfold rd; rw [List.getD_eq_getElem?_getD, List.getD_eq_getElem?_getD, Int.toNat_natCast, List.getElem?_append_left h]
theorem rd_end (l : List Int) (y : Int) : rd (l ++ [y]) l.length = y := by
  unfold rd; simp [List.getD_eq_getElem?_getD]
theorem plc_lt {l : List Int} {x : Nat} (h : x ∈ plc l) : x < l.length := by
  have := (plc_perm l).mem_iff.1 h
  rwa [List.mem_range] at this
theorem plc_app (l : List Int) (h : ∀ x ∈ l, 0 ≤ x) : plc (l ++ [0]) = plc l ++ [l.length] := by
  symm
  apply plc_unique
  · rw [List.length_append, List.length_singleton, List.range_succ]
    exact (plc_perm l).append_right _
  · refine List.pairwise_append.2 ⟨?_, List.pairwise_singleton _ _, ?_⟩
    · refine List.Pairwise.imp_of_mem ?_ (plc_pw l)
      intro a b ha hb h
      unfold plR at h ⊢
      rw [rd_app l 0 (plc_lt ha), rd_app l 0 (plc_lt hb)]
      exact h
    · intro a ha b hb
      obtain rfl := List.mem_singleton.1 hb
      have ha := plc_lt ha
      have := h _ (rd_mem l a ha)
      unfold plR
      rw [rd_app l 0 ha, rd_end]
      omega
theorem prt_app {t : Int} {l : List Int} (hS : 0 < sumI l) : prtS t (sumI l) (l ++ [0]) = prtS t (sumI l) l ++ [0] := by
  have eq : quoS t (sumI l) (l ++ [0]) = quoS t (sumI l) l ++ [0] := by unfold quoS; simp
  have er : rstS t (sumI l) (l ++ [0]) = rstS t (sumI l) l ++ [0] := by unfold rstS; simp
  have el : lftS t (sumI l) (l ++ [0]) = lftS t (sumI l) l := by unfold lftS; rw [eq, sumI_append]; simp [sumI]
  have hle := lft_le (t := t) hS
  have ew : winS t (sumI l) (l ++ [0]) = winS t (sumI l) l := by
    unfold winS
    rw [el, er, plc_app _ (rst_nonneg hS l), List.take_append_of_le_length]
    rw [(plc_perm _).length_eq, List.length_range, rst_len]; omega
  apply ext_rd
  · rw [prt_len, List.length_append, List.length_append, prt_len]
  · intro j hj
    rw [prt_len] at hj
    have hj' : j < l.length + 1 := by simpa using hj
    unfold prtS
    rw [rd_range hj, ew, eq]
    by_cases c : j < l.length
    · rw [rd_app _ 0 (by rw [quo_len]; exact c), rd_app _ 0 (by simpa using c), rd_range c]
    · obtain rfl : j = l.length := by omega
      have e1 := rd_end (quoS t (sumI l) l) 0
      rw [quo_len] at e1
      have e2 := rd_end ((List.range l.length).map (fun (j : Nat) => rd (quoS t (sumI l) l) j + if j ∈ winS t (sumI l) l then 1 else 0)) 0
      rw [List.length_map, List.length_range] at e2
      rw [e1, e2, if_neg (fun h => by have := win_lt h; omega)]; rfl
theorem sumI_zero : ∀ l : List Int, (∀ x ∈ l, 0 ≤ x) → ¬ (∃ x ∈ l, 0 < x) → sumI l = 0 := by
  intro l
  induction l with
  | nil => intro _ _; rfl
  | cons a l ih =>
    intro h n
    have h1 := h a (List.mem_cons_self ..)
    have h2 : ¬ 0 < a := fun c => n ⟨a, List.mem_cons_self .., c⟩
    simp only [sumI]
    rw [ih (fun x hx => h x (List.mem_cons_of_mem _ hx)) (fun ⟨x, hx, hp⟩ => n ⟨x, List.mem_cons_of_mem _ hx, hp⟩)]
    omega
theorem sumI_pos {l : List Int} (h : ∀ x ∈ l, 0 ≤ x) (n : ∃ x ∈ l, 0 < x) : 0 < sumI l := by
  obtain ⟨x, hx, hp⟩ := n
  have := sumI_mem l h x hx
  omega
theorem scaled_l0 (t c : Int) (l : List Int) (ht : 0 ≤ t ∧ t ≤ 4294967295) (hc : 0 ≤ c ∧ c ≤ 255) (hl : 1 ≤ l.length ∧ l.length ≤ 100) (hg : ∀ x ∈ l, 0 ≤ x ∧ x ≤ 65535) : ∀ (d k j : Nat) (b : Bool), j + d = l.length → d + 4000 < k → (b = true ↔ ∃ x ∈ l.take j, 0 < x) →
    annuitylaw02_ShareScaled.l0 k t l c (l.take j) (sc (c + 1) (l.take j)) b (j : Int) = some true := by
  intro d
  induction d with
  | zero =>
    intro k j b hj hk hb
    obtain ⟨k, rfl⟩ : ∃ m, k = m + 1 := ⟨k - 1, by omega⟩
    obtain rfl : j = l.length := by omega
    simp only [annuitylaw02_ShareScaled.l0]
    rw [List.take_length] at hb ⊢
    have h0 : ∀ x ∈ l, 0 ≤ x := fun x hx => (hg x hx).1
    have hs := sumI_le 65535 l (fun x hx => (hg x hx).2)
    have hs0 := sumI_nonneg l h0
    have hs2 : sumI l * (c + 1) ≤ sumI l * 256 := Int.mul_le_mul_of_nonneg_left (by omega) hs0
    have hlz := hl.2
    have hln : (l.length : Int) ≤ 100 := by omega
    have ea : sumI (l ++ [0]) = sumI l := by rw [sumI_append]; simp [sumI]
    rw [if_neg (by omega), w64 (e := t) (by omega) (by omega), split_is t l k (by omega) (by omega)]
    simp only [obind]
    rw [split_is t (sc (c + 1) l) k (by rw [sc_len]; omega) (by omega)]
    simp only [obind, List.length_nil, List.nil_append, List.length_singleton]
    rw [if_pos (by omega), if_pos (by omega), split_is t (l ++ [0]) k (by simp; omega) (by omega)]
    simp only [obind]
    by_cases p : ∃ x ∈ l, 0 < x
    · have hS := sumI_pos h0 p
      have hS2 : 0 < sumI l * (c + 1) := Int.mul_pos hS (by omega)
      have gt : gdm t := by unfold gdm; omega
      have e1 : splitF t l = (prtS t (sumI l) l, 0) := by
        unfold splitF
        rw [if_pos ⟨gt, by omega, fun x hx => by have := hg x hx; unfold gdm; omega, by omega, hS⟩]
      have e2 : splitF t (sc (c + 1) l) = (prtS t (sumI l) l, 0) := by
        unfold splitF
        rw [if_pos ⟨gt, by rw [sc_len]; omega, fun x hx => by
          obtain ⟨w, hw, rfl⟩ := List.mem_map.1 hx
          have := hg w hw
          have h1 : 0 ≤ w * (c + 1) := Int.mul_nonneg this.1 (by omega)
          have h2 : w * (c + 1) ≤ 65535 * 256 := Int.mul_le_mul this.2 (by omega) (by omega) (by omega)
          unfold gdm; omega, by rw [sumI_sc]; omega, by rw [sumI_sc]; exact hS2⟩, sumI_sc, prt_sc (by omega)]
      have e3 : splitF t (l ++ [0]) = (prtS t (sumI l) l ++ [0], 0) := by
        unfold splitF
        rw [if_pos ⟨gt, by simp; omega, fun x hx => by
          rcases List.mem_append.1 hx with h | h
          · have := hg x h; unfold gdm; omega
          · obtain rfl := List.mem_singleton.1 h; unfold gdm; omega, by rw [ea]; omega, by rw [ea]; exact hS⟩, ea, prt_app hS]
      rw [e1, e2, e3, hb.mpr p]
      simp only [if_true]
      rw [longs_same _ k (by rw [prt_len]; omega) (by rw [prt_len]; omega)]
      simp only [obind, if_true]
      rw [if_pos (by rw [prt_len]; omega), if_pos (by rw [prt_len]; omega), longs_same _ k (by simp [prt_len]; omega) (by simp [prt_len]; omega)]
      simp only [obind, if_true]
      rw [wakes02 k (by omega)]
      rfl
    · have z := sumI_zero l h0 p
      have e1 : splitF t l = ([], 1) := by unfold splitF; rw [if_neg (fun h : splitG _ _ => by have := h.2.2.2.2; omega)]
      have e2 : splitF t (sc (c + 1) l) = ([], 1) := by unfold splitF; rw [if_neg (fun h : splitG _ _ => by have := h.2.2.2.2; rw [sumI_sc, z] at this; omega)]
      have e3 : splitF t (l ++ [0]) = ([], 1) := by unfold splitF; rw [if_neg (fun h : splitG _ _ => by have := h.2.2.2.2; rw [ea] at this; omega)]
      have eb : b = false := by
        cases b with
        | false => rfl
        | true => exact absurd (hb.mp rfl) p
      rw [e1, e2, e3, eb]
      rw [if_neg (by simp)]
      simp only [if_true]
      rw [wakes02 k (by omega)]
      rfl
  | succ d ih =>
    intro k j b hj hk hb
    obtain ⟨k, rfl⟩ : ∃ m, k = m + 1 := ⟨k - 1, by omega⟩
    have hjl : j < l.length := by omega
    have hx := hg _ (rd_mem l j hjl)
    have h1 : 0 ≤ rd l j * (c + 1) := Int.mul_nonneg hx.1 (by omega)
    have h2 : rd l j * (c + 1) ≤ 65535 * 256 := Int.mul_le_mul hx.2 (by omega) (by omega) (by omega)
    have et : l.take (j + 1) = l.take j ++ [rd l j] := by
      rw [List.take_add_one]
      have e : rd l j = l[j] := by unfold rd; simp [List.getD_eq_getElem?_getD, hjl]
      rw [e]; simp [hjl]
    have es : sc (c + 1) (l.take (j + 1)) = sc (c + 1) (l.take j) ++ [rd l j * (c + 1)] := by rw [et]; unfold sc; rw [List.map_append]; rfl
    simp only [annuitylaw02_ShareScaled.l0]
    rw [if_pos (by omega), if_pos (by omega)]
    simp only [obind, List.length_singleton]
    rw [if_pos (by simp; omega), if_pos (by rw [sc_len]; simp; omega), w64 (e := c) (by omega) (by omega), w64 (e := c + 1) (by omega) (by omega), w64 (e := rd l j) (by omega) (by omega), w64 (e := rd l j * (c + 1)) (by omega) (by omega), w64 (e := (j : Int) + 1) (by omega) (by omega), ← et, ← es, show (j : Int) + 1 = ((j + 1 : Nat) : Int) by omega]
    cases b with
    | true =>
      rw [if_pos rfl]
      refine ih k (j + 1) true (by omega) (by omega) ⟨fun _ => ?_, fun _ => rfl⟩
      obtain ⟨x, hx, hp⟩ := hb.mp rfl
      exact ⟨x, by rw [et]; exact List.mem_append_left _ hx, hp⟩
    | false =>
      rw [if_neg (by simp)]
      refine ih k (j + 1) _ (by omega) (by omega) ⟨fun h => ⟨rd l j, by rw [et]; exact List.mem_append_right _ (List.mem_singleton.2 rfl), of_decide_eq_true h⟩, ?_⟩
      rintro ⟨x, hx, hp⟩
      rw [et] at hx
      rcases List.mem_append.1 hx with h | h
      · exact absurd (hb.mpr ⟨x, h, hp⟩) (by simp)
      · obtain rfl := List.mem_singleton.1 h; exact decide_eq_true hp
theorem ShareScaled : annuitylaw02_ShareScaled.Pure := by
  intro t l c wt _ _ wl wc
  obtain ⟨k, hk⟩ : ∃ k : Nat, 6000 ≤ k := ⟨_, Nat.le_refl _⟩
  refine ⟨k, ?_⟩
  unfold annuitylaw02_ShareScaled.f
  by_cases c1 : (l.length : Int) < 1
  · rw [if_pos c1, wakes02 k (by omega)]; rfl
  rw [if_neg c1]
  by_cases c2 : (l.length : Int) > 100
  · rw [if_pos c2, wakes02 k (by omega)]; rfl
  rw [if_neg c2]
  have := scaled_l0 t c l (wfu32 wt) (wfu8' wc) ⟨by omega, by omega⟩ (fun x hx => wfu16 (wl x hx)) l.length k 0 false (by omega) (by omega) (by simp)
  rw [List.take_zero] at this
  exact this
end Go.Proofs.Ytpbonoecjlafcaa.Pure
