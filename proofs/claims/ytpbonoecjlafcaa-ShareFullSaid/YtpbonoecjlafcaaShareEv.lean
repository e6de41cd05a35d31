/- What share.Fill and the reference's Fill come to, in plain numbers, for every list that a statement goes through; share.Split at three weights that are alike. -/
import Derived.Test.YtpbonoecjlafcaaZg
import Derived.Test.YtpbonoecjlafcaaZp
import Derived.Test.YtpbonoecjlafcaaPx1
import Derived.Test.YtpbonoecjlafcaaPx4
import Derived.Test.YtpbonoecjlafcaaPx5
import Derived.Test.YtpbonoecjlafcaaPx7
import Derived.Test.YtpbonoecjlafcaaPx10
import Derived.Test.YtpbonoecjlafcaaMoneyEv
namespace Go.Proofs.Ytpbonoecjlafcaa.Pure
set_option linter.unusedVariables false
set_option linter.unusedSimpArgs false
open Go.RowKit Go.Proofs.Ytpbonoecjlafcaa.P Go.Proofs.YtpbonoecjlafcaaW.PrintWords Go.Proofs.YtpbonoecjlafcaaW.PrintLast Go.Proofs.YtpbonoecjlafcaaW.PrintMore Go.Proofs.Ytpbonoecjlafcaa.PlainM
/-- Money, and not below 0. -/
def gdm (a : Int) : Prop := 0 ≤ a ∧ a ≤ 10000000000000
instance (a : Int) : Decidable (gdm a) := by unfold gdm; infer_instance
theorem mnv (a b : Int) : mn a b = if a ≤ b then a else b := by unfold mn; split <;> split <;> omega
theorem rd_drop (l : List Int) (j : Nat) (h : j < l.length) : l.drop j = rd l j :: l.drop (j + 1) := by
  rw [List.drop_eq_getElem_cons h]; congr 1; unfold rd; simp [List.getD_eq_getElem?_getD, h]
theorem rd_mem (l : List Int) (j : Nat) (h : j < l.length) : rd l j ∈ l := by
  have : rd l j = l[j] := by unfold rd; simp [List.getD_eq_getElem?_getD, h]
  rw [this]; exact List.getElem_mem h
theorem bad_is (a : Int) : share_good.bad a = decide (¬ gdm a) := by
  unfold share_good.bad isMoney gdm
  rw [decide_eq_decide, decide_eq_false_iff_not]
  omega
theorem idx_is : ∀ (l : List Int) (j : Nat), share_good.idx l j < 0 ↔ ∀ x ∈ l, gdm x := by
  intro l
  induction l with
  | nil => intro j; simp [share_good.idx]
  | cons a l ih =>
    intro j
    rw [share_good.idx, bad_is]
    by_cases h : gdm a
    · rw [if_neg (by simpa using h), ih]
      exact ⟨fun h2 x hx => (List.mem_cons.1 hx).elim (fun e => e ▸ h) (h2 x), fun h2 x hx => h2 x (List.mem_cons_of_mem _ hx)⟩
    · rw [if_pos (by simpa using h)]
      exact ⟨fun h2 => by omega, fun h2 => absurd (h2 a (List.mem_cons_self ..)) h⟩
theorem sgood_is (k : Nat) (t : Int) (l : List Int) (hl : l.length ≤ 140737488351232) : share_good.f k t l = some (decide (gdm t ∧ l.length ≤ 1000 ∧ ∀ x ∈ l, gdm x)) := by
  unfold share_good.f
  rw [if_pos hl]
  congr 1
  rw [decide_eq_decide, idx_is]
  unfold gdm isMoney
  rw [decide_eq_true_eq]
  exact ⟨fun ⟨h1, h2, h3, h4⟩ => ⟨⟨h1, h2.2⟩, h3, h4⟩, fun ⟨h1, h3, h4⟩ => ⟨h1.1, ⟨by omega, h1.2⟩, h3, h4⟩⟩
theorem rgood_is (a : Int) : annuityref02_good.f a = some (decide (gdm a)) := by
  unfold annuityref02_good.f
  by_cases c : a ≥ 0
  · rw [if_pos c, ref_mGood_is]; simp only [obind]; congr 1; rw [decide_eq_decide]; unfold gdm; omega
  · rw [if_neg c, decide_eq_false (fun h => c h.1)]
/-- What fills the rooms, and what is left. -/
def fillS : List Int → Int → List Int × Int
  | [], t => ([], t)
  | a :: l, t => (mn a t :: (fillS l (t - mn a t)).1, (fillS l (t - mn a t)).2)
theorem mn_gdm {a t : Int} (ha : gdm a) (ht : gdm t) : gdm (mn a t) ∧ gdm (t - mn a t) := by
  unfold gdm at *; rw [mnv]; split <;> omega
theorem fill_l0 (l : List Int) (hl : l.length ≤ 1000) (hg : ∀ x ∈ l, gdm x) : ∀ (d k j : Nat) (p : List Int) (t : Int), j + d = l.length → d < k → p.length + d ≤ 2000 → gdm t →
    share_Fill.l0 k p t l (l.length : Int) (j : Int) = some (p ++ (fillS (l.drop j) t).1, (fillS (l.drop j) t).2, 0) := by
  intro d
  induction d with
  | zero =>
    intro k j p t hj hk hp ht
    obtain ⟨k, rfl⟩ : ∃ m, k = m + 1 := ⟨k - 1, by omega⟩
    simp only [share_Fill.l0]
    rw [if_neg (by omega), List.drop_of_length_le (by omega)]
    simp [fillS]
  | succ d ih =>
    intro k j p t hj hk hp ht
    obtain ⟨k, rfl⟩ : ∃ m, k = m + 1 := ⟨k - 1, by omega⟩
    have hx := hg _ (rd_mem l j (by omega))
    obtain ⟨m1, m2⟩ := mn_gdm hx ht
    have m2' := m2
    unfold gdm at m2'
    simp only [share_Fill.l0]
    rw [if_pos (by omega), if_pos (by omega), if_pos (by omega), if_pos (by omega), w64 (e := t - mn (rd l j) t) (by omega) (by omega), w64 (e := (j : Int) + 1) (by omega) (by omega),
      show (j : Int) + 1 = ((j + 1 : Nat) : Int) by omega, ih k (j + 1) _ _ (by omega) (by omega) (by simp; omega) m2, rd_drop l j (by omega)]
    simp [fillS]
theorem ref_fill_l0 (l : List Int) (hl : l.length ≤ 1000) : ∀ (d k j : Nat) (p : List Int) (t : Int), j + d = l.length → d < k → p.length + d ≤ 2000 → gdm t →
    annuityref02_Fill.l0 k l (j : Int) p t = if ∀ x ∈ l.drop j, gdm x then some (p ++ (fillS (l.drop j) t).1, (fillS (l.drop j) t).2, 0) else some ([], 0, 1) := by
  intro d
  induction d with
  | zero =>
    intro k j p t hj hk hp ht
    obtain ⟨k, rfl⟩ : ∃ m, k = m + 1 := ⟨k - 1, by omega⟩
    simp only [annuityref02_Fill.l0]
    rw [if_neg (by omega), List.drop_of_length_le (by omega)]
    simp [fillS]
  | succ d ih =>
    intro k j p t hj hk hp ht
    obtain ⟨k, rfl⟩ : ∃ m, k = m + 1 := ⟨k - 1, by omega⟩
    simp only [annuityref02_Fill.l0]
    rw [if_pos (by omega), if_pos (by omega), rgood_is, rd_drop l j (by omega)]
    simp only [obind, decide_eq_true_eq]
    by_cases hx : gdm (rd l j)
    · obtain ⟨m1, m2⟩ := mn_gdm hx ht
      have m2' := m2
      unfold gdm at m2'
      rw [if_pos hx, if_pos (by omega), w64 (e := t - mn (rd l j) t) (by omega) (by omega), w64 (e := (j : Int) + 1) (by omega) (by omega), show (j : Int) + 1 = ((j + 1 : Nat) : Int) by omega, ih k (j + 1) _ _ (by omega) (by omega) (by simp; omega) m2]
      have e : (∀ x ∈ rd l j :: l.drop (j + 1), gdm x) ↔ ∀ x ∈ l.drop (j + 1), gdm x :=
        ⟨fun h x h2 => h x (List.mem_cons_of_mem _ h2), fun h x h2 => (List.mem_cons.1 h2).elim (fun e => e ▸ hx) (h x)⟩
      by_cases c : ∀ x ∈ l.drop (j + 1), gdm x
      · rw [if_pos c, if_pos (e.mpr c)]; simp [fillS]
      · rw [if_neg c, if_neg (fun h => c (e.mp h))]
    · rw [if_neg hx, if_neg (fun h => hx (h _ (List.mem_cons_self ..)))]
/-- What Fill tells. -/
def fillF (t : Int) (l : List Int) : List Int × Int × Int := if gdm t ∧ l.length ≤ 1000 ∧ ∀ x ∈ l, gdm x then ((fillS l t).1, (fillS l t).2, 0) else ([], 0, 1)
theorem fill_is (t : Int) (l : List Int) (k : Nat) (hl : l.length ≤ 1200) (hk : 2000 ≤ k) : share_Fill.f k t l = some (fillF t l) := by
  unfold share_Fill.f fillF
  rw [sgood_is k t l (by omega)]
  simp only [obind, decide_eq_true_eq]
  by_cases c : gdm t ∧ l.length ≤ 1000 ∧ ∀ x ∈ l, gdm x
  · rw [if_pos c, if_pos c]
    have := fill_l0 l c.2.1 c.2.2 l.length k 0 [] t (by omega) (by omega) (by simp; omega) c.1
    rw [List.drop_zero, List.nil_append] at this
    exact this
  · rw [if_neg c, if_neg c]
theorem ref_fill_is (t : Int) (l : List Int) (k : Nat) (hl : l.length ≤ 1200) (hk : 2000 ≤ k) : annuityref02_Fill.f k t l = some (fillF t l) := by
  obtain ⟨k, rfl⟩ : ∃ m, k = m + 1 := ⟨k - 1, by omega⟩
  have e0 : annuityref02_Fill.j0 (k + 1) t l true = some ([], 0, 1) := by simp only [annuityref02_Fill.j0, if_true]
  unfold annuityref02_Fill.f fillF
  rw [rgood_is]
  simp only [obind, decide_eq_true_eq]
  by_cases g : gdm t
  case neg => rw [if_neg g, if_neg (fun h => g h.1)]; exact e0
  rw [if_pos g]
  by_cases n : l.length ≤ 1000
  case neg => rw [decide_eq_true (by omega), if_neg (fun h => n h.2.1)]; exact e0
  rw [decide_eq_false (by omega)]
  simp only [annuityref02_Fill.j0]
  rw [if_neg (by simp)]
  have := ref_fill_l0 l n l.length k 0 [] t (by omega) (by omega) (by simp; omega) g
  rw [List.drop_zero, List.nil_append] at this
  refine this.trans ?_
  by_cases c : ∀ x ∈ l, gdm x
  · rw [if_pos c, if_pos ⟨g, n, c⟩]
  · rw [if_neg c, if_neg (fun h => c h.2.2)]
theorem longs_l0 (l : List Int) (hl : l.length ≤ 4611686018427387904) : ∀ (d k : Nat) (i : Int), 0 ≤ i → i + d = l.length → d < k → annuitykeep_Longs.l0 k l l i = some true := by
  intro d
  induction d with
  | zero =>
    intro k i h0 h1 hk
    obtain ⟨k, rfl⟩ : ∃ m, k = m + 1 := ⟨k - 1, by omega⟩
    simp only [annuitykeep_Longs.l0]; rw [if_neg (by omega)]
  | succ d ih =>
    intro k i h0 h1 hk
    obtain ⟨k, rfl⟩ : ∃ m, k = m + 1 := ⟨k - 1, by omega⟩
    simp only [annuitykeep_Longs.l0]
    rw [if_pos (by omega), if_pos h0, if_pos (by omega), if_pos trivial, w64 (by omega) (by omega)]
    exact ih k (i + 1) (by omega) (by omega) (by omega)
theorem longs_same (l : List Int) (k : Nat) (hl : l.length ≤ 4611686018427387904) (hk : l.length < k) : annuitykeep_Longs.f k l l = some true := by
  unfold annuitykeep_Longs.f
  rw [if_pos rfl]
  exact longs_l0 l hl l.length k 0 (by omega) (by omega) hk
theorem fillS_len : ∀ (l : List Int) (t : Int), (fillS l t).1.length = l.length := by
  intro l
  induction l with
  | nil => intro t; rfl
  | cons a l ih => intro t; simp [fillS, ih]
theorem fillF_len (t : Int) (l : List Int) : (fillF t l).1.length ≤ l.length := by
  unfold fillF; split
  · simp [fillS_len]
  · simp
/-- Ten by three weights that are alike. -/
theorem split3 (k : Nat) (hk : 60 ≤ k) : share_Split.f k 10 [1, 1, 1] = some ([4, 3, 3], 0) := by
  have D : ∀ m, 30 ≤ m → money_Div.f m 0 10 3 = some (3, 1, true) := fun m hm => by rw [money_Div_is 0 10 3 m (by omega) (by omega) (by omega) (by omega) (by omega) hm]; rfl
  have M : money_Mul.f 10 1 = some (0, 10) := by rw [money_Mul_is 10 1 (by omega) (by omega) (by omega) (by omega)]; rfl
  unfold share_Split.f
  rw [show money_Sum.f [1, 1, 1] = some (3, 0) by decide, sgood_is _ _ _ (by simp), decide_eq_true (by refine ⟨by unfold gdm; omega, by simp, fun x hx => ?_⟩; simp at hx; subst hx; unfold gdm; omega)]
  simp only [obind, if_true]
  rw [show decide ((3 : Int) ≤ 0) = false by decide]
  obtain ⟨k, rfl⟩ : ∃ m, k = m + 1 := ⟨k - 1, by omega⟩
  simp only [share_Split.j0]
  rw [if_neg (by simp), if_pos (by simp), if_pos (by simp), show ((([1, 1, 1] : List Int).length : Int)).toNat = 3 from rfl, show List.replicate 3 (0 : Int) = [0, 0, 0] from rfl, show (([1, 1, 1] : List Int).length : Int) = 3 from rfl]
  have U10 : IntKind.u64.wrap 10 = 10 := by rw [wu]; rfl
  have U1 : IntKind.u64.wrap 1 = 1 := by rw [wu]; rfl
  have U3 : IntKind.u64.wrap 3 = 3 := by rw [wu]; rfl
  have W : ∀ n : Int, 0 ≤ n → n ≤ 20 → wrap64 n = n := fun n h1 h2 => w64 (by omega) (by omega)
  -- the first loop
  obtain ⟨k, rfl⟩ : ∃ m, k = m + 1 := ⟨k - 1, by omega⟩
  simp only [share_Split.l0]
  rw [if_pos (by decide), if_pos (by decide), if_pos (by decide), show rd [1, 1, 1] 0 = 1 from rfl, U10, U1, U3, M]
  simp only [obind]
  rw [D _ (by omega)]
  simp only [obind]
  rw [if_pos (by decide), if_pos (by decide), W 3 (by omega) (by omega), show ([0, 0, 0] : List Int).set (0 : Int).toNat 3 = [3, 0, 0] from rfl, show ([0, 0, 0] : List Int).set (0 : Int).toNat 1 = [1, 0, 0] from rfl, show rd [3, 0, 0] 0 = 3 from rfl, W (10 - 3) (by omega) (by omega), W (0 + 1) (by omega) (by omega)]
  obtain ⟨k, rfl⟩ : ∃ m, k = m + 1 := ⟨k - 1, by omega⟩
  simp only [share_Split.l0]
  rw [if_pos (by decide), if_pos (by decide), if_pos (by decide), show rd [1, 1, 1] (0 + 1) = 1 from rfl, U10, U1, U3, M]
  simp only [obind]
  rw [D _ (by omega)]
  simp only [obind]
  rw [if_pos (by decide), if_pos (by decide), W 3 (by omega) (by omega), show ([3, 0, 0] : List Int).set (0 + 1 : Int).toNat 3 = [3, 3, 0] from rfl, show ([1, 0, 0] : List Int).set (0 + 1 : Int).toNat 1 = [1, 1, 0] from rfl, show rd [3, 3, 0] (0 + 1) = 3 from rfl, W (10 - 3 - 3) (by omega) (by omega), W (0 + 1 + 1) (by omega) (by omega)]
  obtain ⟨k, rfl⟩ : ∃ m, k = m + 1 := ⟨k - 1, by omega⟩
  simp only [share_Split.l0]
  rw [if_pos (by decide), if_pos (by decide), if_pos (by decide), show rd [1, 1, 1] (0 + 1 + 1) = 1 from rfl, U10, U1, U3, M]
  simp only [obind]
  rw [D _ (by omega)]
  simp only [obind]
  rw [if_pos (by decide), if_pos (by decide), W 3 (by omega) (by omega), show ([3, 3, 0] : List Int).set (0 + 1 + 1 : Int).toNat 3 = [3, 3, 3] from rfl, show ([1, 1, 0] : List Int).set (0 + 1 + 1 : Int).toNat 1 = [1, 1, 1] from rfl, show rd [3, 3, 3] (0 + 1 + 1) = 3 from rfl, W (10 - 3 - 3 - 3) (by omega) (by omega), W (0 + 1 + 1 + 1) (by omega) (by omega)]
  obtain ⟨k, rfl⟩ : ∃ m, k = m + 1 := ⟨k - 1, by omega⟩
  simp only [share_Split.l0]
  rw [if_neg (by decide), show share_places_uint64.f k [1, 1, 1] = some [0, 1, 2] from rfl]
  simp only [obind]
  rw [if_pos (by decide), if_pos (by decide), show ([0, 1, 2] : List Int).take (10 - 3 - 3 - 3 : Int).toNat = [0] from rfl, show (([0] : List Int).length : Int) = 1 from rfl]
  -- the second loop
  obtain ⟨k, rfl⟩ : ∃ m, k = m + 1 := ⟨k - 1, by omega⟩
  simp only [share_Split.l1]
  rw [if_pos (by decide), if_pos (by decide), if_pos (by decide), show rd [0] 0 = 0 from rfl, if_pos (by decide), if_pos (by decide), show rd [3, 3, 3] 0 = 3 from rfl, W (3 + 1) (by omega) (by omega), W (0 + 1) (by omega) (by omega)]
  obtain ⟨k, rfl⟩ : ∃ m, k = m + 1 := ⟨k - 1, by omega⟩
  simp only [share_Split.l1]
  rw [if_neg (by decide)]
  rfl
theorem wakes02 (k : Nat) (hk : 3000 ≤ k) : annuitylaw02_wakes.f k = some true := by
  unfold annuitylaw02_wakes.f
  rw [split3 k (by omega), fill_is 5 [3, 9] k (by simp) (by omega)]
  simp only [obind]
  have e : fillF 5 [3, 9] = ([3, 2], 0, 0) := by
    unfold fillF
    rw [if_pos (by refine ⟨by unfold gdm; omega, by simp, fun x hx => ?_⟩; simp at hx; rcases hx with rfl | rfl <;> (unfold gdm; omega))]
    rfl
  rw [e]
  simp only [if_true]
  rw [longs_same [4, 3, 3] k (by simp) (by simp; omega)]
  simp only [obind, if_true]
  rw [longs_same [3, 2] k (by simp) (by simp; omega)]
  simp only [obind, if_true]
  rfl
end Go.Proofs.Ytpbonoecjlafcaa.Pure
