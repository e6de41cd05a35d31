/- The stable sort of Go's slices package, in plain Lean: what each of its steps keeps. No program in sight. -/
import Derived.Sort.LotA
namespace Go.Proofs.Ytlhcohipnieidaa.St
set_option linter.unusedVariables false
open Go.Sort
variable {α : Type} [Inhabited α] {lt : α → α → Bool} {R : α → α → Prop}

/-- Each stands before each later one. -/
def Srt (R : α → α → Prop) (a b : Nat) (d : Array α) : Prop := ∀ i j, a ≤ i → i < j → j < b → R d[i]! d[j]!
/-- What comparing an earlier x with a later y says of their order. -/
def Crs (lt : α → α → Bool) (R : α → α → Prop) (x y : α) : Prop := (lt y x = true → R y x) ∧ (lt y x = false → R x y)
def CrsIn (lt : α → α → Bool) (R : α → α → Prop) (a m b : Nat) (d : Array α) : Prop := ∀ i j, a ≤ i → i < m → m ≤ j → j < b → Crs lt R d[i]! d[j]!
def CrsAll (lt : α → α → Bool) (R : α → α → Prop) (a b : Nat) (d : Array α) : Prop := ∀ i j, a ≤ i → i < j → j < b → Crs lt R d[i]! d[j]!
/-- A stretch's merge. -/
def MG (R : α → α → Prop) (a b : Nat) (d d' : Array α) : Prop := PermIn a b d d' ∧ Srt R a b d'

theorem Srt.one (a b : Nat) (d : Array α) (h : b ≤ a + 1) : Srt R a b d := fun i j _ _ _ => by omega
theorem psz {a b : Nat} {d d' : Array α} (h : PermIn a b d d') : d'.size = d.size := h.1
theorem pout {a b : Nat} {d d' : Array α} (h : PermIn a b d d') {i : Nat} (hi : i < a ∨ b ≤ i) : d'[i]! = d[i]! := h.2.1 i hi

/-! ### Stretches that are exchanged -/
structure SR (d : Array α) (a b i : Nat) (lo hi : Nat) (dk : Array α) : Prop where
  pm : PermIn lo hi d dk
  at_ : ∀ k, dk[k]! = if a ≤ k ∧ k < a + i then d[k - a + b]! else if b ≤ k ∧ k < b + i then d[k - b + a]! else d[k]!

theorem SR.start (d : Array α) (a b lo hi : Nat) : SR d a b 0 lo hi d :=
  ⟨permIn_refl d _ _, fun k => by rw [if_neg (by omega), if_neg (by omega)]⟩

theorem SR.step {d dk : Array α} {a b i lo hi n : Nat} (h : SR d a b i lo hi dk) (hin : i < n) (hab : a + n ≤ b) (hlo : lo ≤ a) (hb : b + n ≤ hi) (hhi : hi ≤ d.size) : SR d a b (i + 1) lo hi (swp dk (a + i) (b + i)) := by
  have hs := psz h.pm
  refine ⟨permIn_trans _ _ _ _ _ h.pm (swp_permIn _ _ _ _ _ (by omega) (by omega) (by omega) (by omega) (by omega)), fun k => ?_⟩
  rw [swp_get dk (by omega) (by omega) k]
  by_cases c1 : k = b + i
  · rw [if_pos c1, h.at_ (a + i), if_neg (by omega), if_neg (by omega), if_neg (by omega), if_pos (by omega)]
    congr 1; omega
  rw [if_neg c1]
  by_cases c2 : k = a + i
  · rw [if_pos c2, h.at_ (b + i), if_neg (by omega), if_neg (by omega), if_pos (by omega)]
    congr 1; omega
  rw [if_neg c2, h.at_ k]
  by_cases c3 : a ≤ k ∧ k < a + i
  · rw [if_pos c3, if_pos (by omega)]
  rw [if_neg c3, if_neg (by omega : ¬ (a ≤ k ∧ k < a + (i + 1)))]
  by_cases c4 : b ≤ k ∧ k < b + i
  · rw [if_pos c4, if_pos (by omega)]
  rw [if_neg c4, if_neg (by omega)]

/-! ### A stretch that is turned -/
/-- Where each one lies behind the turn. -/
def T (d : Array α) (a m b k : Nat) : α := if a ≤ k ∧ k < a + (b - m) then d[k + (m - a)]! else if a + (b - m) ≤ k ∧ k < b then d[k - (b - m)]! else d[k]!
structure Rot (d : Array α) (a m b : Nat) (dk : Array α) : Prop where
  pm : PermIn a b d dk
  at_ : ∀ k, dk[k]! = T d a m b k
structure RotI (d : Array α) (a m b i j : Nat) (dk : Array α) : Prop where
  pm : PermIn a b d dk
  hi : 0 < i ∧ i ≤ m - a
  hj : 0 < j ∧ j ≤ b - m
  far : ∀ k, k < m - i ∨ m + j ≤ k → dk[k]! = T d a m b k
  lo : ∀ k, m - i ≤ k → k < m - i + j → T d a m b k = dk[k + i]!
  up : ∀ k, m - i + j ≤ k → k < m + j → T d a m b k = dk[k - j]!

theorem RotI.start (d : Array α) (a m b : Nat) (h1 : a < m) (h2 : m < b) (hb : b ≤ d.size) : RotI d a m b (m - a) (b - m) d where
  pm := permIn_refl d _ _
  hi := by omega
  hj := by omega
  far := fun k hk => by unfold T; rw [if_neg (by omega), if_neg (by omega)]
  lo := fun k h3 h4 => by unfold T; rw [if_pos (by omega)]
  up := fun k h3 h4 => by unfold T; rw [if_neg (by omega), if_pos (by omega)]

theorem RotI.gt {d dk dj : Array α} {a m b i j : Nat} (h : RotI d a m b i j dk) (ham : a < m) (hmb : m < b) (hb : b ≤ d.size) (hij : j < i) (hs : SR dk (m - i) m j a b dj) : RotI d a m b (i - j) j dj where
  pm := permIn_trans _ _ _ _ _ h.pm hs.pm
  hi := by have := h.hi; omega
  hj := h.hj
  far := fun k hk => by
    have h1 := h.hi; have h2 := h.hj
    rw [hs.at_ k]
    by_cases c : m - i ≤ k ∧ k < m - i + j
    · rw [if_pos c, h.lo k c.1 c.2]; congr 1; omega
    · rw [if_neg c, if_neg (by omega), h.far k (by omega)]
  lo := fun k h3 h4 => by
    have h1 := h.hi; have h2 := h.hj
    rw [hs.at_ (k + (i - j))]
    by_cases c : m ≤ k + (i - j) ∧ k + (i - j) < m + j
    · rw [if_neg (by omega), if_pos c, h.up k (by omega) (by omega)]; congr 1; omega
    · omega
  up := fun k h3 h4 => by
    have h1 := h.hi; have h2 := h.hj
    rw [hs.at_ (k - j), if_neg (by omega), if_neg (by omega), h.up k (by omega) (by omega)]

theorem RotI.less {d dk dj : Array α} {a m b i j : Nat} (h : RotI d a m b i j dk) (ham : a < m) (hmb : m < b) (hb : b ≤ d.size) (hij : i < j) (hs : SR dk (m - i) (m + j - i) i a b dj) : RotI d a m b i (j - i) dj where
  pm := permIn_trans _ _ _ _ _ h.pm hs.pm
  hi := h.hi
  hj := by have := h.hj; omega
  far := fun k hk => by
    have h1 := h.hi; have h2 := h.hj
    rw [hs.at_ k, if_neg (by omega)]
    by_cases c : m + j - i ≤ k ∧ k < m + j - i + i
    · rw [if_pos c, h.up k (by omega) (by omega)]; congr 1; omega
    · rw [if_neg c, h.far k (by omega)]
  lo := fun k h3 h4 => by
    have h1 := h.hi; have h2 := h.hj
    rw [hs.at_ (k + i), if_neg (by omega), if_neg (by omega), h.lo k (by omega) (by omega)]
  up := fun k h3 h4 => by
    have h1 := h.hi; have h2 := h.hj
    by_cases c : k < m - i + j
    · rw [hs.at_ (k - (j - i)), if_pos (by omega), h.lo k (by omega) c]; congr 1; omega
    · omega

theorem RotI.eq {d dk dj : Array α} {a m b i : Nat} (h : RotI d a m b i i dk) (ham : a < m) (hmb : m < b) (hb : b ≤ d.size) (hs : SR dk (m - i) m i a b dj) : Rot d a m b dj where
  pm := permIn_trans _ _ _ _ _ h.pm hs.pm
  at_ := fun k => by
    have h1 := h.hi; have h2 := h.hj
    rw [hs.at_ k]
    by_cases c1 : m - i ≤ k ∧ k < m - i + i
    · rw [if_pos c1, h.lo k (by omega) (by omega)]; congr 1; omega
    rw [if_neg c1]
    by_cases c2 : m ≤ k ∧ k < m + i
    · rw [if_pos c2, h.up k (by omega) (by omega)]; congr 1; omega
    rw [if_neg c2, h.far k (by omega)]

theorem Rot.noLeft (d : Array α) (m b : Nat) (h : m ≤ b) : Rot d m m b d :=
  ⟨permIn_refl d _ _, fun k => by unfold T; by_cases c : m ≤ k ∧ k < m + (b - m)
                                  · rw [if_pos c]; congr 1; omega
                                  · rw [if_neg c, if_neg (by omega)]⟩
theorem Rot.noRight (d : Array α) (a m : Nat) (h : a ≤ m) : Rot d a m m d :=
  ⟨permIn_refl d _ _, fun k => by unfold T; rw [if_neg (by omega)]; by_cases c : a + (m - m) ≤ k ∧ k < m
                                  · rw [if_pos c]; congr 1; omega
                                  · rw [if_neg c]⟩

/-! ### One that goes up, or down, through a sorted stretch -/
structure BU (d : Array α) (a k lo hi : Nat) (dk : Array α) : Prop where
  pm : PermIn lo hi d dk
  at_ : ∀ t, dk[t]! = if a ≤ t ∧ t < k then d[t + 1]! else if t = k then d[a]! else d[t]!
structure BD (d : Array α) (m k lo hi : Nat) (dk : Array α) : Prop where
  pm : PermIn lo hi d dk
  at_ : ∀ t, dk[t]! = if k < t ∧ t ≤ m then d[t - 1]! else if t = k then d[m]! else d[t]!

theorem BU.start (d : Array α) (a lo hi : Nat) : BU d a a lo hi d :=
  ⟨permIn_refl d _ _, fun t => by rw [if_neg (by omega)]; split
                                  · rename_i e; rw [e]
                                  · rfl⟩
theorem BU.step {d dk : Array α} {a k lo hi : Nat} (h : BU d a k lo hi dk) (hak : a ≤ k) (hlo : lo ≤ a) (hk : k + 1 < hi) (hhi : hi ≤ d.size) : BU d a (k + 1) lo hi (swp dk k (k + 1)) := by
  have hs := psz h.pm
  refine ⟨permIn_trans _ _ _ _ _ h.pm (swp_permIn _ _ _ _ _ (by omega) (by omega) (by omega) (by omega) (by omega)), fun t => ?_⟩
  rw [swp_get dk (by omega) (by omega) t]
  by_cases c1 : t = k + 1
  · rw [if_pos c1, h.at_ k, if_neg (by omega), if_pos rfl, if_neg (by omega), if_pos c1]
  rw [if_neg c1]
  by_cases c2 : t = k
  · rw [if_pos c2, h.at_ (k + 1), if_neg (by omega), if_neg (by omega), if_pos (by omega), c2]
  rw [if_neg c2, h.at_ t]
  by_cases c3 : a ≤ t ∧ t < k
  · rw [if_pos c3, if_pos (by omega)]
  · rw [if_neg c3, if_neg c2, if_neg (by omega), if_neg c1]
theorem BD.start (d : Array α) (m lo hi : Nat) : BD d m m lo hi d :=
  ⟨permIn_refl d _ _, fun t => by rw [if_neg (by omega)]; split
                                  · rename_i e; rw [e]
                                  · rfl⟩
theorem BD.step {d dk : Array α} {m k lo hi : Nat} (h : BD d m k lo hi dk) (hkm : k ≤ m) (hk : lo < k) (hm : m < hi) (hhi : hi ≤ d.size) : BD d m (k - 1) lo hi (swp dk k (k - 1)) := by
  have hs := psz h.pm
  refine ⟨permIn_trans _ _ _ _ _ h.pm (swp_permIn _ _ _ _ _ (by omega) (by omega) (by omega) (by omega) (by omega)), fun t => ?_⟩
  rw [swp_get dk (by omega) (by omega) t]
  by_cases c1 : t = k - 1
  · rw [if_pos c1, h.at_ k, if_neg (by omega), if_pos rfl, if_neg (by omega), if_pos c1]
  rw [if_neg c1]
  by_cases c2 : t = k
  · rw [if_pos c2, h.at_ (k - 1), if_neg (by omega), if_neg (by omega), if_pos (by omega), c2]
  rw [if_neg c2, h.at_ t]
  by_cases c3 : k < t ∧ t ≤ m
  · rw [if_pos c3, if_pos (by omega)]
  · rw [if_neg c3, if_neg c2, if_neg (by omega), if_neg c1]

/-- The first stretch has one element: it goes up to its place. -/
theorem up_done (hT : ∀ x y z, R x y → R y z → R x z) {d dk : Array α} {a b i : Nat} (hb : b ≤ d.size) (hS : Srt R (a + 1) b d) (hC : CrsIn lt R a (a + 1) b d) (h1 : a + 1 ≤ i) (h2 : i ≤ b)
    (hl : i = a + 1 ∨ lt d[i - 1]! d[a]! = true) (hr : i = b ∨ lt d[i]! d[a]! = false) (h : BU d a (i - 1) a b dk) : MG R a b d dk := by
  refine ⟨h.pm, fun x y hx hxy hy => ?_⟩
  rw [h.at_ x, h.at_ y]
  have L : ∀ t, a + 1 ≤ t → t ≤ i - 1 → R d[t]! d[a]! := fun t h3 h4 => by
    have e : R d[i - 1]! d[a]! := (hC a (i - 1) (by omega) (by omega) (by omega) (by omega)).1 (by rcases hl with e | e; omega; exact e)
    by_cases c : t = i - 1
    · rw [c]; exact e
    · exact hT _ _ _ (hS t (i - 1) h3 (by omega) (by omega)) e
  have U : ∀ t, i ≤ t → t < b → R d[a]! d[t]! := fun t h3 h4 => by
    have e : R d[a]! d[i]! := (hC a i (by omega) (by omega) (by omega) (by omega)).2 (by rcases hr with e | e; omega; exact e)
    by_cases c : t = i
    · rw [c]; exact e
    · exact hT _ _ _ e (hS i t (by omega) (by omega) h4)
  by_cases c1 : a ≤ x ∧ x < i - 1
  · rw [if_pos c1]
    by_cases c2 : a ≤ y ∧ y < i - 1
    · rw [if_pos c2]; exact hS _ _ (by omega) (by omega) (by omega)
    rw [if_neg c2]
    by_cases c3 : y = i - 1
    · rw [if_pos c3]; exact L _ (by omega) (by omega)
    · rw [if_neg c3]; exact hS _ _ (by omega) (by omega) (by omega)
  rw [if_neg c1, if_neg (by omega : ¬ (a ≤ y ∧ y < i - 1)), if_neg (by omega : ¬ y = i - 1)]
  by_cases c4 : x = i - 1
  · rw [if_pos c4]; exact U _ (by omega) hy
  · rw [if_neg c4]; exact hS _ _ (by omega) hxy hy

/-- The second stretch has one element: it goes down to its place. -/
theorem down_done (hT : ∀ x y z, R x y → R y z → R x z) {d dk : Array α} {a m i : Nat} (hb : m < d.size) (hS : Srt R a m d) (hC : CrsIn lt R a m (m + 1) d) (h1 : a ≤ i) (h2 : i ≤ m)
    (hl : i = a ∨ lt d[m]! d[i - 1]! = false) (hr : i = m ∨ lt d[m]! d[i]! = true) (h : BD d m i a (m + 1) dk) : MG R a (m + 1) d dk := by
  refine ⟨h.pm, fun x y hx hxy hy => ?_⟩
  rw [h.at_ x, h.at_ y]
  have L : ∀ t, a ≤ t → t < i → R d[t]! d[m]! := fun t h3 h4 => by
    have e : R d[i - 1]! d[m]! := (hC (i - 1) m (by omega) (by omega) (by omega) (by omega)).2 (by rcases hl with e | e; omega; exact e)
    by_cases c : t = i - 1
    · rw [c]; exact e
    · exact hT _ _ _ (hS t (i - 1) h3 (by omega) (by omega)) e
  have U : ∀ t, i ≤ t → t < m → R d[m]! d[t]! := fun t h3 h4 => by
    have e : R d[m]! d[i]! := (hC i m (by omega) (by omega) (by omega) (by omega)).1 (by rcases hr with e | e; omega; exact e)
    by_cases c : t = i
    · rw [c]; exact e
    · exact hT _ _ _ e (hS i t (by omega) (by omega) h4)
  by_cases c1 : i < y ∧ y ≤ m
  · rw [if_pos c1]
    by_cases c2 : i < x ∧ x ≤ m
    · rw [if_pos c2]; exact hS _ _ (by omega) (by omega) (by omega)
    rw [if_neg c2]
    by_cases c3 : x = i
    · rw [if_pos c3]; exact U _ (by omega) (by omega)
    · rw [if_neg c3]; exact hS _ _ (by omega) (by omega) (by omega)
  rw [if_neg c1, if_neg (by omega : ¬ (i < x ∧ x ≤ m)), if_neg (by omega : ¬ x = i)]
  by_cases c4 : y = i
  · rw [if_pos c4]; exact L _ hx (by omega)
  · rw [if_neg c4]; exact hS _ _ hx hxy (by omega)

/-! ### Two stretches, merged -/
/-- Where the search for the cut begins, and where it ends. -/
def s0 (a m b : Nat) : Nat := if m > (a + b) / 2 then (a + b) / 2 + m - b else a
def r0 (a m b : Nat) : Nat := if m > (a + b) / 2 then (a + b) / 2 else m
structure Cut (lt : α → α → Bool) (a m b s r : Nat) (d : Array α) : Prop where
  h1 : s0 a m b ≤ s
  h2 : s ≤ r
  h3 : r ≤ r0 a m b
  hl : s = s0 a m b ∨ lt d[(a + b) / 2 + m - 1 - (s - 1)]! d[s - 1]! = false
  hr : r = r0 a m b ∨ lt d[(a + b) / 2 + m - 1 - r]! d[r]! = true
theorem s0_r0 {a m b : Nat} (ham : a < m) (hmb : m < b) : a ≤ s0 a m b ∧ s0 a m b ≤ r0 a m b ∧ r0 a m b ≤ m ∧ r0 a m b ≤ (a + b) / 2 ∧ (a + b) / 2 + m ≤ b + s0 a m b := by
  unfold s0 r0; split <;> omega
theorem Cut.start {a m b : Nat} {d : Array α} (ham : a < m) (hmb : m < b) : Cut lt a m b (s0 a m b) (r0 a m b) d :=
  ⟨Nat.le_refl _, (s0_r0 ham hmb).2.1, Nat.le_refl _, .inl rfl, .inl rfl⟩
theorem Cut.up {a m b s r c : Nat} {d : Array α} (h : Cut lt a m b s r d) (h1 : s ≤ c) (h2 : c < r) (e : lt d[(a + b) / 2 + m - 1 - c]! d[c]! = false) : Cut lt a m b (c + 1) r d :=
  ⟨by have := h.h1; omega, h2, h.h3, .inr (by simpa using e), h.hr⟩
theorem Cut.dn {a m b s r c : Nat} {d : Array α} (h : Cut lt a m b s r d) (h1 : s ≤ c) (h2 : c < r) (e : lt d[(a + b) / 2 + m - 1 - c]! d[c]! = true) : Cut lt a m b s c d :=
  ⟨h.h1, h1, by have := h.h3; omega, h.hl, .inr e⟩

/-- Behind the turn: both halves are stretches to merge, and no one of the left half stands behind one of the right half. -/
structure Halves (lt : α → α → Bool) (R : α → α → Prop) (a s mid e b : Nat) (d : Array α) : Prop where
  l1 : Srt R a s d
  l2 : Srt R s mid d
  l3 : CrsIn lt R a s mid d
  r1 : Srt R mid e d
  r2 : Srt R e b d
  r3 : CrsIn lt R mid e b d
  lr : ∀ i j, a ≤ i → i < mid → mid ≤ j → j < b → R d[i]! d[j]!

theorem halves (hT : ∀ x y z, R x y → R y z → R x z) {d dk : Array α} {a m b s : Nat} (ham : a < m) (hmb : m < b) (hb : b ≤ d.size) (hS1 : Srt R a m d) (hS2 : Srt R m b d) (hC : CrsIn lt R a m b d)
    (hc : Cut lt a m b s s d) (hr : Rot d s m ((a + b) / 2 + m - s) dk) : Halves lt R a s ((a + b) / 2) ((a + b) / 2 + m - s) b dk := by
  obtain ⟨q1, q2, q3, q4, q5⟩ := s0_r0 ham hmb
  have c1 := hc.h1; have c2 := hc.h3
  obtain ⟨mid, hmid⟩ : ∃ mid, mid = (a + b) / 2 := ⟨_, rfl⟩
  rw [← hmid] at hr q4 q5 ⊢
  have cl := hc.hl; have cr := hc.hr
  rw [← hmid] at cl cr
  obtain ⟨e, he⟩ : ∃ e, e = mid + m - s := ⟨_, rfl⟩
  rw [← he] at hr ⊢
  have BB : (m > mid ∧ s0 a m b = mid + m - b ∧ r0 a m b = mid) ∨ (m ≤ mid ∧ s0 a m b = a ∧ r0 a m b = m) := by
    unfold s0 r0; rw [← hmid]; by_cases c : m > mid
    · left; rw [if_pos c, if_pos c]; exact ⟨c, rfl, rfl⟩
    · right; rw [if_neg c, if_neg c]; exact ⟨by omega, rfl, rfl⟩
  have hr0 : s = s0 a m b → (s = a ∨ e = b) := fun h => by omega
  have hr1 : s = r0 a m b → (s = m ∨ e = m) := fun h => by omega
  have A1 : ∀ k, k < s ∨ e ≤ k → dk[k]! = d[k]! := fun k hk => by rw [hr.at_ k]; unfold T; rw [if_neg (by omega), if_neg (by omega)]
  have A2 : ∀ k, s ≤ k → k < mid → dk[k]! = d[k + (m - s)]! := fun k h3 h4 => by rw [hr.at_ k]; unfold T; rw [if_pos (by omega)]
  have A3 : ∀ k, mid ≤ k → k < e → dk[k]! = d[k - (e - m)]! := fun k h3 h4 => by rw [hr.at_ k]; unfold T; rw [if_neg (by omega), if_pos (by omega)]
  -- the two facts at the cut
  have K1 : s ≠ s0 a m b → R d[s - 1]! d[e]! := fun h => by
    have := cl.resolve_left h
    rw [show mid + m - 1 - (s - 1) = e by omega] at this
    exact (hC (s - 1) e (by omega) (by omega) (by omega) (by omega)).2 this
  have K2 : s ≠ r0 a m b → R d[e - 1]! d[s]! := fun h => by
    have := cr.resolve_left h
    rw [show mid + m - 1 - s = e - 1 by omega] at this
    exact (hC s (e - 1) (by omega) (by omega) (by omega) (by omega)).1 this
  have M1 : ∀ i j, a ≤ i → i < s → e ≤ j → j < b → R d[i]! d[j]! := fun i j h3 h4 h5 h6 => by
    by_cases c : s = s0 a m b
    · have := hr0 c; omega
    have k := K1 c
    have k1 : R d[i]! d[e]! := by
      by_cases c3 : i = s - 1
      · rw [c3]; exact k
      · exact hT _ _ _ (hS1 i (s - 1) h3 (by omega) (by omega)) k
    by_cases c3 : j = e
    · rw [c3]; exact k1
    · exact hT _ _ _ k1 (hS2 e j (by omega) (by omega) h6)
  have M2 : ∀ i j, m ≤ i → i < e → s ≤ j → j < m → R d[i]! d[j]! := fun i j h3 h4 h5 h6 => by
    by_cases c : s = r0 a m b
    · have := hr1 c; omega
    have k := K2 c
    have k1 : R d[i]! d[s]! := by
      by_cases c3 : i = e - 1
      · rw [c3]; exact k
      · exact hT _ _ _ (hS2 i (e - 1) h3 (by omega) (by omega)) k
    by_cases c3 : j = s
    · rw [c3]; exact k1
    · exact hT _ _ _ k1 (hS1 s j (by omega) (by omega) h6)
  refine ⟨fun i j h3 h4 h5 => ?_, fun i j h3 h4 h5 => ?_, fun i j h3 h4 h5 h6 => ?_, fun i j h3 h4 h5 => ?_, fun i j h3 h4 h5 => ?_, fun i j h3 h4 h5 h6 => ?_, fun i j h3 h4 h5 h6 => ?_⟩
  · rw [A1 i (by omega), A1 j (by omega)]; exact hS1 i j h3 h4 (by omega)
  · rw [A2 i h3 (by omega), A2 j (by omega) h5]; exact hS2 _ _ (by omega) (by omega) (by omega)
  · rw [A1 i (by omega), A2 j (by omega) h6]; exact hC _ _ h3 (by omega) (by omega) (by omega)
  · rw [A3 i h3 (by omega), A3 j (by omega) h5]; exact hS1 _ _ (by omega) (by omega) (by omega)
  · rw [A1 i (by omega), A1 j (by omega)]; exact hS2 i j (by omega) h4 h5
  · rw [A3 i h3 h4, A1 j (by omega)]; exact hC _ _ (by omega) (by omega) (by omega) h6
  · by_cases c3 : i < s
    · rw [A1 i (by omega)]
      by_cases c4 : j < e
      · rw [A3 j h5 c4]; exact hS1 _ _ h3 (by omega) (by omega)
      · rw [A1 j (by omega)]; exact M1 i j h3 c3 (by omega) h6
    · rw [A2 i (by omega) h4]
      by_cases c4 : j < e
      · rw [A3 j h5 c4]; exact M2 _ _ (by omega) (by omega) (by omega) (by omega)
      · rw [A1 j (by omega)]; exact hS2 _ _ (by omega) (by omega) h6

theorem Srt.congr {a b : Nat} {d d' : Array α} (h : Srt R a b d) (e : ∀ i, a ≤ i → i < b → d'[i]! = d[i]!) : Srt R a b d' := fun i j h1 h2 h3 => by
  rw [e i h1 (by omega), e j (by omega) h3]; exact h i j h1 h2 h3
theorem CrsIn.congr {a m b : Nat} {d d' : Array α} (h : CrsIn lt R a m b d) (e : ∀ i, a ≤ i → i < b → d'[i]! = d[i]!) : CrsIn lt R a m b d' := fun i j h1 h2 h3 h4 => by
  rw [e i h1 (by omega), e j (by omega) h4]; exact h i j h1 h2 h3 h4

/-- The left half's merge is skipped where there is nothing to merge. -/
theorem Halves.noLeft {a s mid e b : Nat} {d : Array α} (h : Halves lt R a s mid e b d) (hs : a ≤ s) (c : ¬ (a < s ∧ s < mid)) : MG R a mid d d := by
  refine ⟨permIn_refl d _ _, ?_⟩
  by_cases c1 : a < s
  · exact fun i j h1 h2 h3 => h.l1 i j h1 h2 (by omega)
  · exact fun i j h1 h2 h3 => h.l2 i j (by omega) h2 h3
theorem Halves.noRight {a s mid e b : Nat} {d d' : Array α} (h : Halves lt R a s mid e b d) (hm : a ≤ mid) (he : mid ≤ e) (hl : MG R a mid d d') (c : ¬ (mid < e ∧ e < b)) : MG R mid b d' d' := by
  refine ⟨permIn_refl d' _ _, ?_⟩
  have E : ∀ i, mid ≤ i → d'[i]! = d[i]! := fun i hi => pout hl.1 (.inr hi)
  by_cases c1 : mid < e
  · exact fun i j h1 h2 h3 => by rw [E i h1, E j (by omega)]; exact h.r1 i j h1 h2 (by omega)
  · exact fun i j h1 h2 h3 => by rw [E i h1, E j (by omega)]; exact h.r2 i j (by omega) h2 h3
theorem Halves.right {a s mid e b : Nat} {d d' : Array α} (h : Halves lt R a s mid e b d) (hl : MG R a mid d d') (he : mid ≤ e) : Srt R mid e d' ∧ Srt R e b d' ∧ CrsIn lt R mid e b d' := by
  have E : ∀ i, mid ≤ i → d'[i]! = d[i]! := fun i hi => pout hl.1 (.inr hi)
  exact ⟨h.r1.congr fun i h1 _ => E i h1, h.r2.congr fun i h1 _ => E i (by omega), h.r3.congr fun i h1 _ => E i h1⟩
theorem Halves.done {a s mid e b : Nat} {d0 d d' d'' : Array α} (h : Halves lt R a s mid e b d) (hm : a ≤ mid) (hmb : mid ≤ b) (hb : b ≤ d.size) (h0 : PermIn a b d0 d) (hl : MG R a mid d d') (hr : MG R mid b d' d'') : MG R a b d0 d'' := by
  have z0 := psz h0; have z1 := psz hl.1
  have P1 : PermIn a b d d' := permIn_mono d d' a mid a b (Nat.le_refl _) hmb hb hl.1
  have P2 : PermIn a b d' d'' := permIn_mono d' d'' mid b a b hm (Nat.le_refl _) (by omega) hr.1
  refine ⟨permIn_trans _ _ _ _ _ (permIn_trans _ _ _ _ _ h0 P1) P2, fun i j h1 h2 h3 => ?_⟩
  by_cases c1 : j < mid
  · rw [pout hr.1 (.inl (by omega)), pout hr.1 (.inl c1)]; exact hl.2 i j h1 h2 c1
  by_cases c2 : mid ≤ i
  · exact hr.2 i j c2 h2 h3
  rw [pout hr.1 (.inl (by omega : i < mid))]
  -- any of the left half, any of the right half
  have a1 : ∀ t, mid ≤ t → t < b → R d'[i]! d'[t]! := fun t h5 h6 => by
    rw [pout hl.1 (.inr h5)]
    exact permIn_all d d' a mid (fun x => R x d[t]!) (by omega) hl.1 (fun x hx hx2 => h.lr x t hx hx2 h5 h6) i h1 (by omega)
  exact permIn_all d' d'' mid b (fun y => R d'[i]! y) (by omega) hr.1 a1 j (by omega) h3

/-! ### The insertion sort -/
theorem ins_step (hT : ∀ x y z, R x y → R y z → R x z) {d0 d dk : Array α} {a b i j : Nat} (hib : i < b) (hb : b ≤ d0.size) (hai : a ≤ i) (h0 : MG R a i d0 d) (hC : CrsAll lt R a b d0) (h1 : a ≤ j) (h2 : j ≤ i)
    (hl : j = a ∨ lt d[i]! d[j - 1]! = false) (hr : j = i ∨ lt d[i]! d[j]! = true) (h : BD d i j a (i + 1) dk) : MG R a (i + 1) d0 dk := by
  have z0 := psz h0.1
  have C : CrsIn lt R a i (i + 1) d := fun x y h3 h4 h5 h6 => by
    rw [show y = i by omega, pout h0.1 (.inr (Nat.le_refl _) : i < a ∨ i ≤ i)]
    exact permIn_all d0 d a i (fun x => Crs lt R x d0[i]!) (by omega) h0.1 (fun x hx hx2 => hC x i hx hx2 hib) x h3 h4
  have M := down_done hT (by omega) h0.2 C h1 h2 hl hr h
  exact ⟨permIn_trans _ _ _ _ _ (permIn_mono d0 d a i a (i + 1) (Nat.le_refl _) (by omega) (by omega) h0.1) M.1, M.2⟩

/-! ### The blocks -/
theorem bnd_perm {a b B n : Nat} {d d' : Array α} (hn : n ≤ d.size) (hab : a ≤ b) (hb : b ≤ n) (hB : B ≤ a ∨ b ≤ B) (hP : PermIn a b d d') (h : ∀ i j, i < B → B ≤ j → j < n → Crs lt R d[i]! d[j]!) :
    ∀ i j, i < B → B ≤ j → j < n → Crs lt R d'[i]! d'[j]! := by
  intro i j hi hj hjn
  rcases hB with c | c
  · rw [pout hP (.inl (by omega) : i < a ∨ b ≤ i)]
    have P : PermIn B n d d' := permIn_mono d d' a b B n c hb hn hP
    exact permIn_all d d' B n (fun y => Crs lt R d[i]! y) hn P (fun t h1 h2 => h i t hi h1 h2) j hj hjn
  · rw [pout hP (.inr (by omega) : j < a ∨ b ≤ j)]
    by_cases cb : B ≤ n
    · have P : PermIn 0 B d d' := permIn_mono d d' a b 0 B (Nat.zero_le _) c (by omega) hP
      exact permIn_all d d' 0 B (fun x => Crs lt R x d[j]!) (by omega) P (fun t h1 h2 => h t j h2 hj hjn) i (Nat.zero_le _) hi
    · omega

/-- Blocks of w, sorted up to place a, the rest as it was. -/
structure Blk1 (lt : α → α → Bool) (R : α → α → Prop) (w n k : Nat) (d0 d : Array α) : Prop where
  pm : PermIn 0 n d0 d
  srt : ∀ q i j, q < k → q * w ≤ i → i < j → j < (q + 1) * w → R d[i]! d[j]!
  bnd : ∀ q i j, i < q * w → q * w ≤ j → j < n → Crs lt R d[i]! d[j]!
  rest : CrsAll lt R (k * w) n d
/-- Blocks of w, all sorted. -/
structure Blk (lt : α → α → Bool) (R : α → α → Prop) (w n : Nat) (d0 d : Array α) : Prop where
  pm : PermIn 0 n d0 d
  srt : ∀ q i j, q * w ≤ i → i < j → j < (q + 1) * w → j < n → R d[i]! d[j]!
  bnd : ∀ q i j, i < q * w → q * w ≤ j → j < n → Crs lt R d[i]! d[j]!

theorem Blk1.start {n w : Nat} {d : Array α} (h : CrsAll lt R 0 n d) : Blk1 lt R w n 0 d d :=
  ⟨permIn_refl d _ _, fun q i j h1 => by omega, fun q i j h1 h2 h3 => h i j (Nat.zero_le _) (by omega) h3, fun i j h1 h2 h3 => h i j (Nat.zero_le _) h2 h3⟩

theorem Blk1.step {w n k : Nat} {d0 d d' : Array α} (h : Blk1 lt R w n k d0 d) (hn : n ≤ d0.size) (hk : (k + 1) * w ≤ n) (hM : MG R (k * w) ((k + 1) * w) d d') : Blk1 lt R w n (k + 1) d0 d' := by
  have z := psz h.pm
  have hw : k * w ≤ (k + 1) * w := Nat.mul_le_mul_right _ (by omega)
  refine ⟨permIn_trans _ _ _ _ _ h.pm (permIn_mono d d' _ _ 0 n (Nat.zero_le _) hk (by omega) hM.1), fun q i j h1 h2 h3 h4 => ?_, fun q => ?_, fun i j h1 h2 h3 => ?_⟩
  · by_cases c : q = k
    · subst c; exact hM.2 i j h2 h3 h4
    · have : (q + 1) * w ≤ k * w := Nat.mul_le_mul_right _ (by omega)
      rw [pout hM.1 (.inl (by omega)), pout hM.1 (.inl (by omega))]; exact h.srt q i j (by omega) h2 h3 h4
  · have hB : q * w ≤ k * w ∨ (k + 1) * w ≤ q * w := by
      rcases Nat.lt_or_ge k q with c | c
      · exact .inr (Nat.mul_le_mul_right _ c)
      · exact .inl (Nat.mul_le_mul_right _ c)
    exact bnd_perm (by omega) hw hk hB hM.1 (h.bnd q)
  · rw [pout hM.1 (.inr h1), pout hM.1 (.inr (by omega))]; exact h.rest i j (by omega) h2 h3

theorem Blk1.done {w n k : Nat} {d0 d d' : Array α} (h : Blk1 lt R w n k d0 d) (hn : n ≤ d0.size) (hk0 : k * w ≤ n) (hk : n < (k + 1) * w) (hM : MG R (k * w) n d d') : Blk lt R w n d0 d' := by
  have z := psz h.pm
  refine ⟨permIn_trans _ _ _ _ _ h.pm (permIn_mono d d' _ _ 0 n (Nat.zero_le _) (Nat.le_refl _) (by omega) hM.1), fun q i j h2 h3 h4 h5 => ?_, fun q => ?_⟩
  · rcases Nat.lt_trichotomy q k with c | c | c
    · have : (q + 1) * w ≤ k * w := Nat.mul_le_mul_right _ c
      rw [pout hM.1 (.inl (by omega)), pout hM.1 (.inl (by omega))]; exact h.srt q i j c h2 h3 h4
    · subst c; exact hM.2 i j h2 h3 h5
    · have : (k + 1) * w ≤ q * w := Nat.mul_le_mul_right _ c
      omega
  · have hB : q * w ≤ k * w ∨ n ≤ q * w := by
      rcases Nat.lt_or_ge k q with c | c
      · have : (k + 1) * w ≤ q * w := Nat.mul_le_mul_right _ c
        exact .inr (by omega)
      · exact .inl (Nat.mul_le_mul_right _ c)
    exact bnd_perm (by omega) hk0 (Nat.le_refl _) hB hM.1 (h.bnd q)

/-- Blocks of w that become blocks of 2 w: the first k pairs are merged. -/
structure Mrg (lt : α → α → Bool) (R : α → α → Prop) (w n k : Nat) (d0 d : Array α) : Prop where
  pm : PermIn 0 n d0 d
  srt : ∀ q i j, q < k → q * (2 * w) ≤ i → i < j → j < (q + 1) * (2 * w) → R d[i]! d[j]!
  bnd : ∀ q i j, i < q * (2 * w) → q * (2 * w) ≤ j → j < n → Crs lt R d[i]! d[j]!
  srt1 : ∀ q i j, 2 * k ≤ q → q * w ≤ i → i < j → j < (q + 1) * w → j < n → R d[i]! d[j]!
  bnd1 : ∀ q i j, 2 * k ≤ q → i < q * w → q * w ≤ j → j < n → Crs lt R d[i]! d[j]!

theorem two_mul_w (q w : Nat) : (2 * q) * w = q * (2 * w) := by rw [Nat.mul_comm 2 q, Nat.mul_assoc]
theorem Mrg.start {w n : Nat} {d0 d : Array α} (h : Blk lt R w n d0 d) : Mrg lt R w n 0 d0 d :=
  ⟨h.pm, fun q i j h1 => by omega, fun q i j h1 h2 h3 => h.bnd (2 * q) i j (by rw [two_mul_w]; exact h1) (by rw [two_mul_w]; exact h2) h3, fun q i j _ => h.srt q i j, fun q i j _ => h.bnd q i j⟩

theorem Mrg.left {w n k : Nat} {d0 d : Array α} (h : Mrg lt R w n k d0 d) (hk : k * (2 * w) + w ≤ n) : Srt R (k * (2 * w)) (k * (2 * w) + w) d := fun i j h1 h2 h3 =>
  h.srt1 (2 * k) i j (Nat.le_refl _) (by rw [two_mul_w]; exact h1) h2 (by rw [Nat.add_mul, two_mul_w]; omega) (by omega)
theorem Mrg.rightS {w n k b : Nat} {d0 d : Array α} (h : Mrg lt R w n k d0 d) (hb : b ≤ n) (hb2 : b ≤ k * (2 * w) + 2 * w) : Srt R (k * (2 * w) + w) b d := fun i j h1 h2 h3 =>
  h.srt1 (2 * k + 1) i j (by omega) (by rw [Nat.add_mul, two_mul_w]; omega) h2 (by rw [Nat.add_mul, Nat.add_mul, two_mul_w]; omega) (by omega)
theorem Mrg.crs {w n k b : Nat} {d0 d : Array α} (h : Mrg lt R w n k d0 d) (hb : b ≤ n) : CrsIn lt R (k * (2 * w)) (k * (2 * w) + w) b d := fun i j h1 h2 h3 h4 =>
  h.bnd1 (2 * k + 1) i j (by omega) (by rw [Nat.add_mul, two_mul_w]; omega) (by rw [Nat.add_mul, two_mul_w]; omega) (by omega)

theorem Mrg.step {w n k : Nat} {d0 d d' : Array α} (h : Mrg lt R w n k d0 d) (hn : n ≤ d0.size) (hk : (k + 1) * (2 * w) ≤ n) (hM : MG R (k * (2 * w)) ((k + 1) * (2 * w)) d d') : Mrg lt R w n (k + 1) d0 d' := by
  have z := psz h.pm
  have hw : k * (2 * w) ≤ (k + 1) * (2 * w) := Nat.mul_le_mul_right _ (by omega)
  have far : ∀ q, 2 * (k + 1) ≤ q → (k + 1) * (2 * w) ≤ q * w := fun q hq => by rw [← two_mul_w]; exact Nat.mul_le_mul_right _ hq
  refine ⟨permIn_trans _ _ _ _ _ h.pm (permIn_mono d d' _ _ 0 n (Nat.zero_le _) hk (by omega) hM.1), fun q i j h1 h2 h3 h4 => ?_, fun q => ?_, fun q i j h0 h1 h2 h3 h4 => ?_, fun q i j h0 => ?_⟩
  · by_cases c : q = k
    · subst c; exact hM.2 i j h2 h3 h4
    · have : (q + 1) * (2 * w) ≤ k * (2 * w) := Nat.mul_le_mul_right _ (by omega)
      rw [pout hM.1 (.inl (by omega)), pout hM.1 (.inl (by omega))]; exact h.srt q i j (by omega) h2 h3 h4
  · have hB : q * (2 * w) ≤ k * (2 * w) ∨ (k + 1) * (2 * w) ≤ q * (2 * w) := by
      rcases Nat.lt_or_ge k q with c | c
      · exact .inr (Nat.mul_le_mul_right _ c)
      · exact .inl (Nat.mul_le_mul_right _ c)
    exact bnd_perm (by omega) hw hk hB hM.1 (h.bnd q)
  · have := far q h0
    rw [pout hM.1 (.inr (by omega)), pout hM.1 (.inr (by omega))]; exact h.srt1 q i j (by omega) h1 h2 h3 h4
  · exact bnd_perm (by omega) hw hk (.inr (far q h0)) hM.1 (h.bnd1 q · · (by omega)) i j

theorem Mrg.done {w n k : Nat} {d0 d d' : Array α} (h : Mrg lt R w n k d0 d) (hn : n ≤ d0.size) (hk0 : k * (2 * w) ≤ n) (hk : n < (k + 1) * (2 * w)) (hM : MG R (k * (2 * w)) n d d') : Blk lt R (2 * w) n d0 d' := by
  have z := psz h.pm
  refine ⟨permIn_trans _ _ _ _ _ h.pm (permIn_mono d d' _ _ 0 n (Nat.zero_le _) (Nat.le_refl _) (by omega) hM.1), fun q i j h2 h3 h4 h5 => ?_, fun q => ?_⟩
  · rcases Nat.lt_trichotomy q k with c | c | c
    · have : (q + 1) * (2 * w) ≤ k * (2 * w) := Nat.mul_le_mul_right _ c
      rw [pout hM.1 (.inl (by omega)), pout hM.1 (.inl (by omega))]; exact h.srt q i j c h2 h3 h4
    · subst c; exact hM.2 i j h2 h3 h5
    · have : (k + 1) * (2 * w) ≤ q * (2 * w) := Nat.mul_le_mul_right _ c
      omega
  · have hB : q * (2 * w) ≤ k * (2 * w) ∨ n ≤ q * (2 * w) := by
      rcases Nat.lt_or_ge k q with c | c
      · have : (k + 1) * (2 * w) ≤ q * (2 * w) := Nat.mul_le_mul_right _ c
        exact .inr (by omega)
      · exact .inl (Nat.mul_le_mul_right _ c)
    exact bnd_perm (by omega) hk0 (Nat.le_refl _) hB hM.1 (h.bnd q)
/-- .. where the last pair has no second block. -/
theorem Mrg.last {w n k : Nat} {d0 d : Array α} (h : Mrg lt R w n k d0 d) (hk : n ≤ k * (2 * w) + w) : MG R (k * (2 * w)) n d d :=
  ⟨permIn_refl d _ _, fun i j h1 h2 h3 => h.srt1 (2 * k) i j (Nat.le_refl _) (by rw [two_mul_w]; exact h1) h2 (by rw [Nat.add_mul, two_mul_w]; omega) h3⟩

theorem Blk.all {w n : Nat} {d0 d : Array α} (h : Blk lt R w n d0 d) (hw : n ≤ w) : MG R 0 n d0 d :=
  ⟨h.pm, fun i j h1 h2 h3 => h.srt 0 i j (by omega) h2 (by omega) h3⟩
end Go.Proofs.Ytlhcohipnieidaa.St
